import PyProof.Rows.All
import Wide.All
import OpenK.AllK
import Wide.FinOn
import HandS.ForMost
import HandS.Flow
import HandS.Wide
import HandS.WideBits
import HandS.TupAny
import HandS.TupMul
import HandS.TupLe
import HandS.IsInst
import HandS.Deep
import KE.DataEq
import KE.DataCmp
import KE.DataMinMax
import KE.SortData
import KE.KDictKeyed
import HandS.TupLen
import HandS.WordsDict
import HandS.Conv
import HandS.RaiseMore
import HandS.More
import PyProof.ReprRoads
import PyProof.Rows.RowBridgeK
import KE.KDictSum
import KE.KDictCopyH
import KE.KDictPairs
import KE.GoesZip
import KE.GoesMore
import KE.KDictZip
import PyProof.ListNew
import HandS.Iter
import HandS.Zip
import KE.GoesEnum
import HandS.Strs
import HandS.SetKeys
import HandS.Style
import HandS.Ends
import HandS.EndBits
import HandS.Defaults
import HandS.HeadHook2
import KE.KStateDown
import Lean
import HandS.Base
import HandS.Call
import HandS.Words
import HandS.WordsExc
import HandS.Head0
import HandS.Head1
import HandS.Head2
import HandS.HeadEnd
import HandS.HeadHook1
import PySem.Challenge.RW_everyonegetsthere_k18_whole_waits_at_gat
set_option Elab.async false
set_option linter.all false
set_option maxRecDepth 100000
set_option autoImplicit false
namespace FL
open PySem PySem.Spec PyProof.Rows L2

/-! ## data, store -/
inductive D where
  | non | bl (b : Bool) | int (i : Int) | str (x : Str) | tup (ds : List D) | ft (ds : List D) | ref (n : Nat) | ty (n : String)
inductive O where
  | lst (ds : List D) | rol (ds : List D) | dK (kvs : List (Key × D)) | dT (kvs : List (List Key × D)) | lk (o : O)
abbrev Sto := List O
abbrev Loc := List (Option D)

mutual
def D.beq : D → D → Bool
  | .non, .non => true
  | .bl a, .bl b => a == b
  | .int a, .int b => a == b
  | .str a, .str b => a == b
  | .tup a, .tup b => D.beqs a b
  | .ft a, .ft b => D.beqs a b
  | .ref a, .ref b => a == b
  | .ty a, .ty b => a == b
  | _, _ => false
def D.beqs : List D → List D → Bool
  | [], [] => true
  | a :: r, b :: t => D.beq a b && D.beqs r t
  | _, _ => false
end
mutual
theorem D.beq_eq : ∀ a b : D, D.beq a b = true → a = b
  | .non, b, h => by cases b <;> simp [D.beq] at h ⊢
  | .bl a, b, h => by cases b <;> simp [D.beq] at h ⊢; exact h
  | .int a, b, h => by cases b <;> simp [D.beq] at h ⊢; exact h
  | .str a, b, h => by cases b <;> simp [D.beq] at h ⊢; exact h
  | .tup a, b, h => by
    cases b <;> simp [D.beq] at h ⊢
    exact D.beqs_eq _ _ h
  | .ft a, b, h => by
    cases b <;> simp [D.beq] at h ⊢
    exact D.beqs_eq _ _ h
  | .ref a, b, h => by cases b <;> simp [D.beq] at h ⊢; exact h
  | .ty a, b, h => by cases b <;> simp [D.beq] at h ⊢; exact h
theorem D.beqs_eq : ∀ a b : List D, D.beqs a b = true → a = b
  | [], b, h => by cases b <;> simp [D.beqs] at h ⊢
  | a :: r, b, h => by
    cases b with
    | nil => simp [D.beqs] at h
    | cons c t =>
      simp [D.beqs] at h
      rw [D.beq_eq _ _ h.1, D.beqs_eq _ _ h.2]
end
mutual
theorem D.beq_self : ∀ a : D, D.beq a a = true
  | .non => rfl
  | .bl a => by simp [D.beq]
  | .int a => by simp [D.beq]
  | .str a => by simp [D.beq]
  | .tup a => by simp [D.beq, D.beqs_self a]
  | .ft a => by simp [D.beq, D.beqs_self a]
  | .ref a => by simp [D.beq]
  | .ty a => by simp [D.beq]
theorem D.beqs_self : ∀ a : List D, D.beqs a a = true
  | [] => rfl
  | a :: r => by simp [D.beqs, D.beq_self a, D.beqs_self r]
end
def kvBeq {κ : Type} [DecidableEq κ] : List (κ × D) → List (κ × D) → Bool
  | [], [] => true
  | a :: r, b :: t => decide (a.1 = b.1) && D.beq a.2 b.2 && kvBeq r t
  | _, _ => false
theorem kvBeq_eq {κ : Type} [DecidableEq κ] : ∀ a b : List (κ × D), kvBeq a b = true → a = b
  | [], [], _ => rfl
  | a :: r, b :: t, h => by
    simp only [kvBeq, Bool.and_eq_true, decide_eq_true_eq] at h
    obtain ⟨⟨h1, h2⟩, h3⟩ := h
    rw [kvBeq_eq _ _ h3, Prod.ext h1 (D.beq_eq _ _ h2)]
  | [], _ :: _, h => by simp [kvBeq] at h
  | _ :: _, [], h => by simp [kvBeq] at h
theorem kvBeq_self {κ : Type} [DecidableEq κ] : ∀ a : List (κ × D), kvBeq a a = true
  | [] => rfl
  | a :: r => by simp [kvBeq, D.beq_self, kvBeq_self r]
def O.beq : O → O → Bool
  | .lst a, .lst b => D.beqs a b
  | .rol a, .rol b => D.beqs a b
  | .dK a, .dK b => kvBeq a b
  | .dT a, .dT b => kvBeq a b
  | .lk a, .lk b => O.beq a b
  | _, _ => false
theorem O.beq_eq : ∀ a b : O, O.beq a b = true → a = b
  | .lst a, b, h => by cases b <;> simp [O.beq] at h ⊢; exact D.beqs_eq _ _ h
  | .rol a, b, h => by cases b <;> simp [O.beq] at h ⊢; exact D.beqs_eq _ _ h
  | .dK a, b, h => by cases b <;> simp [O.beq] at h ⊢; exact kvBeq_eq _ _ h
  | .dT a, b, h => by cases b <;> simp [O.beq] at h ⊢; exact kvBeq_eq _ _ h
  | .lk a, b, h => by cases b <;> simp [O.beq] at h ⊢; exact O.beq_eq _ _ h
theorem O.beq_self : ∀ a : O, O.beq a a = true
  | .lst a => D.beqs_self a
  | .rol a => D.beqs_self a
  | .dK a => kvBeq_self a
  | .dT a => kvBeq_self a
  | .lk a => O.beq_self a

/-! ### all numbers in it lie below n -/
mutual
def D.low (n : Nat) : D → Bool
  | .tup ds => D.lows n ds
  | .ft ds => D.lows n ds
  | .ref k => decide (k < n)
  | _ => true
def D.lows (n : Nat) : List D → Bool
  | [] => true
  | d :: ds => D.low n d && D.lows n ds
end
def kvLow {κ : Type} (n : Nat) : List (κ × D) → Bool
  | [] => true
  | a :: r => D.low n a.2 && kvLow n r
def O.low (n : Nat) : O → Bool
  | .lst ds => D.lows n ds
  | .rol ds => D.lows n ds
  | .dK kvs => kvLow n kvs
  | .dT kvs => kvLow n kvs
  | .lk o => O.low n o

/-! ## what stands for what -/
mutual
def VR (m : List Addr) (H : Hp) : D → V → Prop
  | .non, v => v = .non
  | .bl b, v => v = .bl b
  | .int i, v => v = .int i
  | .str x, v => v = .str x
  | .tup ds, v => ∃ p vs, v = .ref p ∧ H p = some (.tup vs) ∧ VRs m H ds vs
  | .ft ds, v => ∃ p o vs, v = .ref p ∧ H p = some (.frz o (.tup vs)) ∧ o.dict = none ∧ VRs m H ds vs
  | .ref n, v => ∃ p, v = .ref p ∧ m[n]? = some p
  | .ty n, v => v = .ty n
def VRs (m : List Addr) (H : Hp) : List D → List V → Prop
  | [], vs => vs = []
  | d :: ds, vs => ∃ v r, vs = v :: r ∧ VR m H d v ∧ VRs m H ds r
end
abbrev KR {κ : Type} (m : List Addr) (H : Hp) : List (κ × D) → List (κ × V) → Prop := Paired fun a b => a.1 = b.1 ∧ VR m H a.2 b.2
def OR (m : List Addr) (H : Hp) : O → Addr → Prop
  | .lst ds, p => ∃ vs, H p = some (.lst vs) ∧ VRs m H ds vs
  | .rol ds, p => ∃ vs, Rd H p (.lst vs) ∧ VRs m H ds vs
  | .dK kvs, p => ∃ ws, H p = some (.dK ws) ∧ KR m H kvs ws
  | .dT kvs, p => ∃ ws, H p = some (.dT ws) ∧ KR m H kvs ws
  | .lk (.lst ds), p => ∃ o vs, H p = some (.frz o (.lst vs)) ∧ VRs m H ds vs
  | .lk (.dK kvs), p => ∃ o ws, H p = some (.frz o (.dK ws)) ∧ KR m H kvs ws
  | .lk (.dT kvs), p => ∃ o ws, H p = some (.frz o (.dT ws)) ∧ KR m H kvs ws
  | .lk _, _ => False
structure Ext0 (m : List Addr) (H : Hp) (m' : List Addr) (H' : Hp) : Prop where
  pre : ∃ r, m' = m ++ r
  tup : ∀ p vs, H p = some (.tup vs) → H' p = some (.tup vs)
  ft : ∀ p o vs, H p = some (.frz o (.tup vs)) → H' p = some (.frz o (.tup vs))
structure Ext (m : List Addr) (H : Hp) (m' : List Addr) (H' : Hp) : Prop where
  pre : ∃ r, m' = m ++ r
  tup : ∀ p vs, H p = some (.tup vs) → H' p = some (.tup vs)
  frz : ∀ p o u, H p = some (.frz o u) → H' p = some (.frz o u)
theorem Ext.refl (m : List Addr) (H : Hp) : Ext m H m H := ⟨⟨[], (List.append_nil m).symm⟩, fun _ _ h => h, fun _ _ _ h => h⟩
theorem Ext.trans {m m1 m2 : List Addr} {H H1 H2 : Hp} (a : Ext m H m1 H1) (b : Ext m1 H1 m2 H2) : Ext m H m2 H2 := by
  obtain ⟨r, e⟩ := a.pre
  obtain ⟨t, e'⟩ := b.pre
  exact ⟨⟨r ++ t, by rw [e', e, List.append_assoc]⟩, fun p vs h => b.tup _ _ (a.tup _ _ h), fun p o u h => b.frz _ _ _ (a.frz _ _ _ h)⟩
theorem Ext0.at {m m' : List Addr} {H H' : Hp} (a : Ext0 m H m' H') {n : Nat} {p : Addr} (h : m[n]? = some p) : m'[n]? = some p := by
  obtain ⟨r, e⟩ := a.pre
  have hn : n < m.length := (List.getElem?_eq_some_iff.mp h).1
  rw [e, List.getElem?_append_left hn, h]
mutual
theorem VR.ext0 {m m' : List Addr} {H H' : Hp} (x : Ext0 m H m' H') : ∀ {d : D} {v : V}, VR m H d v → VR m' H' d v
  | .non, v, h => h
  | .bl _, v, h => h
  | .int _, v, h => h
  | .str _, v, h => h
  | .ty _, v, h => h
  | .tup ds, v, h => by
    obtain ⟨p, vs, e, hp, hs⟩ := h
    exact ⟨p, vs, e, x.tup _ _ hp, VRs.ext0 x hs⟩
  | .ft ds, v, h => by
    obtain ⟨p, o, vs, e, hp, hd, hs⟩ := h
    exact ⟨p, o, vs, e, x.ft _ _ _ hp, hd, VRs.ext0 x hs⟩
  | .ref n, v, h => by
    obtain ⟨p, e, hp⟩ := h
    exact ⟨p, e, x.at hp⟩
theorem VRs.ext0 {m m' : List Addr} {H H' : Hp} (x : Ext0 m H m' H') : ∀ {ds : List D} {vs : List V}, VRs m H ds vs → VRs m' H' ds vs
  | [], vs, h => h
  | d :: ds, vs, h => by
    obtain ⟨v, r, e, h1, h2⟩ := h
    exact ⟨v, r, e, VR.ext0 x h1, VRs.ext0 x h2⟩
end
theorem KR.ext0 {κ : Type} {m m' : List Addr} {H H' : Hp} (x : Ext0 m H m' H') {kvs : List (κ × D)} {ws : List (κ × V)} (h : KR m H kvs ws) : KR m' H' kvs ws :=
  Paired.mapP h fun _ _ z => ⟨z.1, z.2.ext0 x⟩
theorem OR.ext0 {m m' : List Addr} {H H' : Hp} (x : Ext0 m H m' H') {o : O} {p : Addr} (e : H' p = H p) (h : OR m H o p) : OR m' H' o p := by
  cases o with
  | lst ds => obtain ⟨vs, h1, h2⟩ := h; exact ⟨vs, e.trans h1, h2.ext0 x⟩
  | rol ds => obtain ⟨vs, h1, h2⟩ := h; exact ⟨vs, by unfold Rd at *; rw [e]; exact h1, h2.ext0 x⟩
  | dK ds => obtain ⟨vs, h1, h2⟩ := h; exact ⟨vs, e.trans h1, h2.ext0 x⟩
  | dT ds => obtain ⟨vs, h1, h2⟩ := h; exact ⟨vs, e.trans h1, h2.ext0 x⟩
  | lk o =>
    cases o with
    | lst ds => obtain ⟨q, vs, h1, h2⟩ := h; exact ⟨q, vs, e.trans h1, h2.ext0 x⟩
    | dK ds => obtain ⟨q, vs, h1, h2⟩ := h; exact ⟨q, vs, e.trans h1, h2.ext0 x⟩
    | dT ds => obtain ⟨q, vs, h1, h2⟩ := h; exact ⟨q, vs, e.trans h1, h2.ext0 x⟩
    | rol ds => exact h.elim
    | lk o => exact h.elim
theorem Ext.x0 {m m' : List Addr} {H H' : Hp} (x : Ext m H m' H') : Ext0 m H m' H' := ⟨x.pre, x.tup, fun p o vs h => x.frz p o _ h⟩
theorem Ext.at {m m' : List Addr} {H H' : Hp} (a : Ext m H m' H') {n : Nat} {p : Addr} (h : m[n]? = some p) : m'[n]? = some p := a.x0.at h
theorem VR.ext {m m' : List Addr} {H H' : Hp} (x : Ext m H m' H') {d : D} {v : V} (h : VR m H d v) : VR m' H' d v := h.ext0 x.x0
theorem VRs.ext {m m' : List Addr} {H H' : Hp} (x : Ext m H m' H') {ds : List D} {vs : List V} (h : VRs m H ds vs) : VRs m' H' ds vs := h.ext0 x.x0
theorem KR.ext {κ : Type} {m m' : List Addr} {H H' : Hp} (x : Ext m H m' H') {kvs : List (κ × D)} {ws : List (κ × V)} (h : KR m H kvs ws) : KR m' H' kvs ws := KR.ext0 x.x0 h
theorem OR.ext {m m' : List Addr} {H H' : Hp} (x : Ext m H m' H') {o : O} {p : Addr} (e : H' p = H p) (h : OR m H o p) : OR m' H' o p := OR.ext0 x.x0 e h
/-- the object is there, and no tuple -/
theorem OR.there {m : List Addr} {H : Hp} {o : O} {p : Addr} (h : OR m H o p) : ∃ ho, H p = some ho ∧ ∀ vs, ho ≠ .tup vs := by
  cases o with
  | lst ds => obtain ⟨vs, h1, h2⟩ := h; exact ⟨_, h1, fun _ z => nomatch z⟩
  | rol ds =>
    obtain ⟨vs, h1, h2⟩ := h
    rcases h1 with h1 | ⟨o, h1⟩
    · exact ⟨_, h1, fun _ z => nomatch z⟩
    · exact ⟨_, h1, fun _ z => nomatch z⟩
  | dK ds => obtain ⟨vs, h1, h2⟩ := h; exact ⟨_, h1, fun _ z => nomatch z⟩
  | dT ds => obtain ⟨vs, h1, h2⟩ := h; exact ⟨_, h1, fun _ z => nomatch z⟩
  | lk o =>
    cases o with
    | lst ds => obtain ⟨q, vs, h1, h2⟩ := h; exact ⟨_, h1, fun _ z => nomatch z⟩
    | dK ds => obtain ⟨q, vs, h1, h2⟩ := h; exact ⟨_, h1, fun _ z => nomatch z⟩
    | dT ds => obtain ⟨q, vs, h1, h2⟩ := h; exact ⟨_, h1, fun _ z => nomatch z⟩
    | rol ds => exact h.elim
    | lk o => exact h.elim
structure SimO (m : List Addr) (H : Hp) (st : Sto) : Prop where
  len : m.length = st.length
  nd : m.Nodup
  obj : ∀ (i : Nat) (p : Addr) (o : O), m[i]? = some p → st[i]? = some o → OR m H o p
structure LR (m : List Addr) (H : Hp) (L : Loc) (σ : L2.St) : Prop where
  len : L.length = σ.length
  loc : ∀ (i : Nat) (d : D), L[i]? = some (some d) → ∃ v, σ[i]? = some (some v) ∧ VR m H d v
theorem LR.ext {m m' : List Addr} {H H' : Hp} {L : Loc} {σ : L2.St} (x : Ext m H m' H') (h : LR m H L σ) : LR m' H' L σ :=
  ⟨h.len, fun i d e => by obtain ⟨v, e', r⟩ := h.loc i d e; exact ⟨v, e', r.ext x⟩⟩
theorem LR.set {m : List Addr} {H : Hp} {L : Loc} {σ : L2.St} (h : LR m H L σ) (i : Nat) {d : D} {v : V} (r : VR m H d v) : LR m H (L.set i (some d)) (σ.set i (some v)) := by
  refine ⟨by simpa using h.len, fun j d' e => ?_⟩
  by_cases hj : i = j
  · subst hj
    have hl : i < L.length := by
      have := (List.getElem?_eq_some_iff.mp e).1
      simpa using this
    rw [List.getElem?_set_self hl] at e
    cases e
    exact ⟨v, List.getElem?_set_self (by rw [← h.len]; exact hl), r⟩
  · rw [List.getElem?_set_ne hj] at e
    rw [List.getElem?_set_ne hj]
    exact h.loc j d' e
theorem SimO.there {m : List Addr} {H : Hp} {st : Sto} (S : SimO m H st) {i : Nat} {p : Addr} (h : m[i]? = some p) : ∃ ho, H p = some ho ∧ ∀ vs, ho ≠ .tup vs := by
  have hi : i < st.length := by rw [← S.len]; exact (List.getElem?_eq_some_iff.mp h).1
  exact (S.obj i p st[i] h (List.getElem?_eq_getElem hi)).there
theorem SimO.fresh {m : List Addr} {H : Hp} {st : Sto} (S : SimO m H st) {q : Addr} (hq : H q = none) : q ∉ m := fun hm => by
  obtain ⟨i, hi, e⟩ := List.getElem_of_mem hm
  obtain ⟨ho, h1, _⟩ := S.there (i := i) (p := q) (by rw [List.getElem?_eq_getElem hi, e])
  rw [hq] at h1; cases h1
/-- a tuple is laid -/
theorem ext_tup {m : List Addr} {H : Hp} {q : Addr} {ho : HO} (hq : H q = none) : Ext m H m (upd H q ho) :=
  ⟨⟨[], (List.append_nil m).symm⟩, fun p vs h => by rw [upd_ne (ne_of_none h hq)]; exact h, fun p o u h => by rw [upd_ne (ne_of_none h hq)]; exact h⟩
theorem SimO.laidT {m : List Addr} {H : Hp} {st : Sto} (S : SimO m H st) {q : Addr} {ho : HO} (hq : H q = none) : SimO m (upd H q ho) st :=
  ⟨S.len, S.nd, fun i p o h1 h2 => (S.obj i p o h1 h2).ext (ext_tup hq) (by
    rw [upd_ne]
    intro e
    subst e
    exact S.fresh hq (List.mem_of_getElem? h1))⟩
/-- a new object of the store -/
theorem ext_new {m : List Addr} {H : Hp} {q : Addr} {ho : HO} (hq : H q = none) : Ext m H (m ++ [q]) (upd H q ho) :=
  ⟨⟨[q], rfl⟩, fun p vs h => by rw [upd_ne (ne_of_none h hq)]; exact h, fun p o u h => by rw [upd_ne (ne_of_none h hq)]; exact h⟩
theorem SimO.laid {m : List Addr} {H : Hp} {st : Sto} (S : SimO m H st) {q : Addr} {ho : HO} {o : O} (hq : H q = none) (h : OR (m ++ [q]) (upd H q ho) o q) : SimO (m ++ [q]) (upd H q ho) (st ++ [o]) := by
  have hf := S.fresh hq
  refine ⟨by simp [S.len], ?_, fun i p o' h1 h2 => ?_⟩
  · rw [List.nodup_append]
    refine ⟨S.nd, by simp, fun a ha b hb => ?_⟩
    simp only [List.mem_singleton] at hb
    subst hb
    intro e
    subst e
    exact hf ha
  · by_cases hi : i < m.length
    · rw [List.getElem?_append_left hi] at h1
      rw [List.getElem?_append_left (by rw [← S.len]; exact hi)] at h2
      refine (S.obj i p o' h1 h2).ext (ext_new hq) ?_
      rw [upd_ne]
      intro e
      subst e
      exact hf (List.mem_of_getElem? h1)
    · have hi' : i = m.length := by
        have := (List.getElem?_eq_some_iff.mp h1).1
        simp at this
        omega
      subst hi'
      rw [List.getElem?_concat_length] at h1
      rw [S.len, List.getElem?_concat_length] at h2
      cases h1
      cases h2
      exact h
/-- an object of the store is changed -/
theorem ext_write0 {m : List Addr} {H : Hp} {p : Addr} {ho ho' : HO} (hp : H p = some ho) (hn : ∀ vs, ho ≠ .tup vs) (hf : ∀ o vs, ho ≠ .frz o (.tup vs) := by exact fun _ _ z => nomatch z) : Ext0 m H m (upd H p ho') :=
  ⟨⟨[], (List.append_nil m).symm⟩, fun q vs h => by
    rw [upd_ne]
    · exact h
    · intro e
      subst e
      rw [hp] at h
      exact hn vs (Option.some.inj h), fun q o vs h => by
    rw [upd_ne]
    · exact h
    · intro e
      subst e
      rw [hp] at h
      exact hf o vs (Option.some.inj h)⟩
theorem ext_write {m : List Addr} {H : Hp} {p : Addr} {ho ho' : HO} (hp : H p = some ho) (hn : ∀ vs, ho ≠ .tup vs) (hf : ∀ o u, ho ≠ .frz o u := by exact fun _ _ z => nomatch z) : Ext m H m (upd H p ho') :=
  ⟨⟨[], (List.append_nil m).symm⟩, fun q vs h => by
    rw [upd_ne]
    · exact h
    · intro e
      subst e
      rw [hp] at h
      exact hn vs (Option.some.inj h), fun q o u h => by
    rw [upd_ne]
    · exact h
    · intro e
      subst e
      rw [hp] at h
      exact hf o u (Option.some.inj h)⟩
theorem SimO.write {m : List Addr} {H : Hp} {st : Sto} (S : SimO m H st) {n : Nat} {p : Addr} {ho ho' : HO} {o : O} (hn : m[n]? = some p) (hp : H p = some ho) (ht : ∀ vs, ho ≠ .tup vs) (h : OR m (upd H p ho') o p) (hf : ∀ o vs, ho ≠ .frz o (.tup vs) := by exact fun _ _ z => nomatch z) :
    SimO m (upd H p ho') (st.set n o) := by
  refine ⟨by simp [S.len], S.nd, fun i q o' h1 h2 => ?_⟩
  by_cases hi : n = i
  · subst hi
    rw [hn] at h1; cases h1
    have hl : n < st.length := by rw [← S.len]; exact (List.getElem?_eq_some_iff.mp hn).1
    rw [List.getElem?_set_self hl] at h2; cases h2
    exact h
  · rw [List.getElem?_set_ne hi] at h2
    refine (S.obj i q o' h1 h2).ext0 (ext_write0 hp ht hf) ?_
    rw [upd_ne]
    intro e
    subst e
    exact hi (nodup_idx S.nd hn h1)
where
  nodup_idx {m : List Addr} (h : m.Nodup) {i j : Nat} {x : Addr} (a : m[i]? = some x) (b : m[j]? = some x) : i = j := by
    obtain ⟨h1, e1⟩ := List.getElem?_eq_some_iff.mp a
    obtain ⟨h2, e2⟩ := List.getElem?_eq_some_iff.mp b
    exact (List.getElem_inj h).mp (e1.trans e2.symm)

/-! ## what lies above is forgotten -/
mutual
theorem VR.bel {m : List Addr} {H : Hp} : ∀ {d : D} {v : V}, VR m H d v → d.low m.length = true
  | .non, v, h => by simp [D.low]
  | .bl _, v, h => by simp [D.low]
  | .int _, v, h => by simp [D.low]
  | .str _, v, h => by simp [D.low]
  | .ty _, v, h => by simp [D.low]
  | .tup ds, v, h => by
    obtain ⟨p, vs, e, hp, hs⟩ := h
    simpa [D.low] using VRs.bel hs
  | .ft ds, v, h => by
    obtain ⟨p, o, vs, e, hp, hd, hs⟩ := h
    simpa [D.low] using VRs.bel hs
  | .ref n, v, h => by
    obtain ⟨p, e, hp⟩ := h
    simpa [D.low] using (List.getElem?_eq_some_iff.mp hp).1
theorem VRs.bel {m : List Addr} {H : Hp} : ∀ {ds : List D} {vs : List V}, VRs m H ds vs → D.lows m.length ds = true
  | [], vs, h => by simp [D.lows]
  | d :: ds, vs, h => by
    obtain ⟨v, r, e, h1, h2⟩ := h
    simp [D.lows, VR.bel h1, VRs.bel h2]
end
mutual
theorem VR.cut {m r : List Addr} {H : Hp} : ∀ {d : D} {v : V}, d.low m.length = true → VR (m ++ r) H d v → VR m H d v
  | .non, v, b, h => h
  | .bl _, v, b, h => h
  | .int _, v, b, h => h
  | .str _, v, b, h => h
  | .ty _, v, b, h => h
  | .tup ds, v, b, h => by
    obtain ⟨p, vs, e, hp, hs⟩ := h
    exact ⟨p, vs, e, hp, VRs.cut (by simpa [D.low] using b) hs⟩
  | .ft ds, v, b, h => by
    obtain ⟨p, o, vs, e, hp, hd, hs⟩ := h
    exact ⟨p, o, vs, e, hp, hd, VRs.cut (by simpa [D.low] using b) hs⟩
  | .ref n, v, b, h => by
    obtain ⟨p, e, hp⟩ := h
    refine ⟨p, e, ?_⟩
    rw [List.getElem?_append_left (by simpa [D.low] using b)] at hp
    exact hp
theorem VRs.cut {m r : List Addr} {H : Hp} : ∀ {ds : List D} {vs : List V}, D.lows m.length ds = true → VRs (m ++ r) H ds vs → VRs m H ds vs
  | [], vs, b, h => h
  | d :: ds, vs, b, h => by
    obtain ⟨v, t, e, h1, h2⟩ := h
    simp only [D.lows, Bool.and_eq_true] at b
    exact ⟨v, t, e, VR.cut b.1 h1, VRs.cut b.2 h2⟩
end
theorem KR.bel {κ : Type} {m : List Addr} {H : Hp} : ∀ {kvs : List (κ × D)} {ws : List (κ × V)}, KR m H kvs ws → kvLow m.length kvs = true
  | _, _, .nil => rfl
  | _, _, .cons z t => by simp [kvLow, VR.bel z.2, KR.bel t]
theorem KR.cut {κ : Type} {m r : List Addr} {H : Hp} : ∀ {kvs : List (κ × D)} {ws : List (κ × V)}, kvLow m.length kvs = true → KR (m ++ r) H kvs ws → KR m H kvs ws
  | _, _, _, .nil => .nil
  | _, _, b, .cons z t => by
    simp only [kvLow, Bool.and_eq_true] at b
    exact .cons ⟨z.1, VR.cut b.1 z.2⟩ (KR.cut b.2 t)
theorem OR.bel {m : List Addr} {H : Hp} {o : O} {p : Addr} (h : OR m H o p) : o.low m.length = true := by
  cases o with
  | lst ds => obtain ⟨vs, h1, h2⟩ := h; exact h2.bel
  | rol ds => obtain ⟨vs, h1, h2⟩ := h; exact h2.bel
  | dK ds => obtain ⟨vs, h1, h2⟩ := h; exact KR.bel h2
  | dT ds => obtain ⟨vs, h1, h2⟩ := h; exact KR.bel h2
  | lk o =>
    cases o with
    | lst ds => obtain ⟨q, vs, h1, h2⟩ := h; exact h2.bel
    | dK ds => obtain ⟨q, vs, h1, h2⟩ := h; exact KR.bel h2
    | dT ds => obtain ⟨q, vs, h1, h2⟩ := h; exact KR.bel h2
    | rol ds => exact h.elim
    | lk o => exact h.elim
theorem OR.cut {m r : List Addr} {H : Hp} {o : O} {p : Addr} (b : o.low m.length = true) (h : OR (m ++ r) H o p) : OR m H o p := by
  cases o with
  | lst ds => obtain ⟨vs, h1, h2⟩ := h; exact ⟨vs, h1, h2.cut b⟩
  | rol ds => obtain ⟨vs, h1, h2⟩ := h; exact ⟨vs, h1, h2.cut b⟩
  | dK ds => obtain ⟨vs, h1, h2⟩ := h; exact ⟨vs, h1, KR.cut b h2⟩
  | dT ds => obtain ⟨vs, h1, h2⟩ := h; exact ⟨vs, h1, KR.cut b h2⟩
  | lk o =>
    cases o with
    | lst ds => obtain ⟨q, vs, h1, h2⟩ := h; exact ⟨q, vs, h1, h2.cut b⟩
    | dK ds => obtain ⟨q, vs, h1, h2⟩ := h; exact ⟨q, vs, h1, KR.cut b h2⟩
    | dT ds => obtain ⟨q, vs, h1, h2⟩ := h; exact ⟨q, vs, h1, KR.cut b h2⟩
    | rol ds => exact h.elim
    | lk o => exact h.elim

/-- each object of st is as it was in s', or leans on nothing above n -/
def kept (n : Nat) : Sto → Sto → Bool
  | [], _ => true
  | _ :: _, [] => false
  | a :: r, b :: t => (O.beq a b || O.low n b) && kept n r t
def gc (st : Sto) (d : D) (st' : Sto) : D × Sto := if d.low st.length && kept st.length st st' then (d, st'.take st.length) else (d, st')
theorem kept_at {n : Nat} : ∀ {st st' : Sto}, kept n st st' = true → ∀ (i : Nat) (o : O), st[i]? = some o → ∃ o' : O, st'[i]? = some o' ∧ (o = o' ∨ O.low n o' = true)
  | [], _, _, i, o, h => by simp at h
  | _ :: _, [], h, _, _, _ => by simp [kept] at h
  | a :: r, b :: t, h, i, o, e => by
    simp only [kept, Bool.and_eq_true, Bool.or_eq_true] at h
    cases i with
    | zero =>
      simp only [List.getElem?_cons_zero, Option.some.injEq] at e
      subst e
      exact ⟨b, by simp, h.1.imp (O.beq_eq _ _) id⟩
    | succ i =>
      obtain ⟨o', e1, e2⟩ := kept_at h.2 i o (by simpa using e)
      exact ⟨o', by simpa using e1, e2⟩
theorem SimO.cut {m r : List Addr} {H H' : Hp} {st st' : Sto} (S : SimO m H st) (S' : SimO (m ++ r) H' st') (k : kept st.length st st' = true) : SimO m H' (st'.take st.length) := by
  have hl : (st'.take st.length).length = st.length := by
    have h1 := S'.len
    have h2 := S.len
    simp at h1 ⊢
    omega
  refine ⟨by rw [hl, S.len], S.nd, fun i p o h1 h2 => ?_⟩
  have hi : i < m.length := (List.getElem?_eq_some_iff.mp h1).1
  have hi' : i < st.length := by rw [← S.len]; exact hi
  rw [List.getElem?_take_of_lt hi'] at h2
  have x := S'.obj i p o (by rw [List.getElem?_append_left hi]; exact h1) h2
  obtain ⟨o', e1, e2⟩ := kept_at k i st[i] (List.getElem?_eq_getElem hi')
  rw [h2] at e1
  cases e1
  refine x.cut ?_
  rcases e2 with e2 | e2
  · have y := (S.obj i p st[i] h1 (List.getElem?_eq_getElem hi')).bel
    rw [e2] at y
    exact y
  · rw [S.len]; exact e2
end FL

set_option Elab.async false
set_option linter.all false
set_option maxRecDepth 100000
set_option autoImplicit false
namespace FL
open PySem PySem.Spec PyProof.Rows L2

abbrev FE := Loc → Sto → Option (D × Sto)
abbrev FT := Loc → Sto → Option (Bool × Sto)
abbrev FA := Loc → Sto → Option (List D × Sto)
abbrev F1 := D → Sto → Option (D × Sto)
abbrev F2 := D → D → Sto → Option (D × Sto)
abbrev FF := List D → Sto → Option (D × Sto)

/-! ### readings of HandS by functions -/
def RE (t : TE) (f : FE) : Prop := ∀ (L : Loc) (st : Sto) (d : D) (st' : Sto) (σ : L2.St) (H : Hp) (m : List Addr) (Q : VK), f L st = some (d, st') → SimO m H st → LR m H L σ →
  (∀ v m' H', Ext m H m' H' → SimO m' H' st' → VR m' H' d v → Q v H') → t σ H Q
def RT (t : TT) (f : FT) : Prop := ∀ (L : Loc) (st : Sto) (b : Bool) (st' : Sto) (σ : L2.St) (H : Hp) (m : List Addr) (Q : Bool → Hp → Prop), f L st = some (b, st') → SimO m H st → LR m H L σ →
  (∀ m' H', Ext m H m' H' → SimO m' H' st' → Q b H') → t σ H Q
def RA (t : TA) (f : FA) : Prop := ∀ (L : Loc) (st : Sto) (ds : List D) (st' : Sto) (σ : L2.St) (H : Hp) (m : List Addr) (Q : List V → Hp → Prop), f L st = some (ds, st') → SimO m H st → LR m H L σ →
  (∀ vs m' H', Ext m H m' H' → SimO m' H' st' → VRs m' H' ds vs → Q vs H') → t σ H Q
def SE (X : Cx) (e : Expr) (f : FE) : Prop := ∃ t, PE X e t ∧ RE t f
def ST (X : Cx) (e : Expr) (f : FT) : Prop := ∃ t, PT X e t ∧ RT t f
def SW (X : Cx) (e : Expr) (f : FT) : Prop := ∃ t, PW X e t ∧ RT t f
def SA (X : Cx) (es : List Expr) (f : FA) : Prop := ∃ t, PA X es t ∧ RA t f
theorem SW.st {X : Cx} {e : Expr} {f : FT} (h : SW X e f) : ST X e f := let ⟨t, p, r⟩ := h; ⟨t, p.pt, r⟩

/-! ### by values -/
def O1 (r : V → Hp → VK → Prop) (fo : F1) : Prop := ∀ (x : D) (st : Sto) (d : D) (st' : Sto) (H : Hp) (m : List Addr) (v : V) (Q : VK), fo x st = some (d, st') → SimO m H st → VR m H x v →
  (∀ u m' H', Ext m H m' H' → SimO m' H' st' → VR m' H' d u → Q u H') → r v H Q
def O2 (r : R2) (fo : F2) : Prop := ∀ (x y : D) (st : Sto) (d : D) (st' : Sto) (H : Hp) (m : List Addr) (v w : V) (Q : VK), fo x y st = some (d, st') → SimO m H st → VR m H x v → VR m H y w →
  (∀ u m' H', Ext m H m' H' → SimO m' H' st' → VR m' H' d u → Q u H') → r v w H Q
def OC (r : List V → Hp → VK → Prop) (fo : FF) : Prop := ∀ (ds : List D) (st : Sto) (d : D) (st' : Sto) (H : Hp) (m : List Addr) (vs : List V) (Q : VK), fo ds st = some (d, st') → SimO m H st → VRs m H ds vs →
  (∀ u m' H', Ext m H m' H' → SimO m' H' st' → VR m' H' d u → Q u H') → r vs H Q
/-- the left one, where it is something -/
def or1 (f g : F1) : F1 := fun x s => match f x s with | some r => some r | none => g x s
def or2 (f g : F2) : F2 := fun x y s => match f x y s with | some r => some r | none => g x y s
def orC (f g : FF) : FF := fun ds s => match f ds s with | some r => some r | none => g ds s
theorem O1.or {r r' : V → Hp → VK → Prop} {f g : F1} (a : O1 r f) (b : O1 r' g) : O1 (fun x H Q => r x H Q ∨ r' x H Q) (or1 f g) := by
  intro x st d st' H m v Q h S rx k
  unfold or1 at h
  cases e : f x st with
  | some z => rw [e] at h; exact .inl (a x st d st' H m v Q (e.trans h) S rx k)
  | none => rw [e] at h; exact .inr (b x st d st' H m v Q h S rx k)
theorem O2.or {r r' : R2} {f g : F2} (a : O2 r f) (b : O2 r' g) : O2 (fun x y H Q => r x y H Q ∨ r' x y H Q) (or2 f g) := by
  intro x y st d st' H m v w Q h S rx ry k
  unfold or2 at h
  cases e : f x y st with
  | some z => rw [e] at h; exact .inl (a x y st d st' H m v w Q (e.trans h) S rx ry k)
  | none => rw [e] at h; exact .inr (b x y st d st' H m v w Q h S rx ry k)
theorem OC.or {r r' : List V → Hp → VK → Prop} {f g : FF} (a : OC r f) (b : OC r' g) : OC (fun x H Q => r x H Q ∨ r' x H Q) (orC f g) := by
  intro ds st d st' H m vs Q h S rx k
  unfold orC at h
  cases e : f ds st with
  | some z => rw [e] at h; exact .inl (a ds st d st' H m vs Q (e.trans h) S rx k)
  | none => rw [e] at h; exact .inr (b ds st d st' H m vs Q h S rx k)
theorem callR_or {X : Cx} {f : Value} {r r' : List V → Hp → VK → Prop} (a : CallR X f r) (b : CallR X f r') : CallR X f (fun x H Q => r x H Q ∨ r' x H Q) := by
  intro pins s σ H xs us Q I r1 q
  rcases q with q | q
  · exact a pins s σ H xs us Q I r1 q
  · exact b pins s σ H xs us Q I r1 q
theorem ixR_or {X : Cx} {r r' : R2} (h : IxR X r) (h' : IxR X r') : IxR X (fun x y H Q => r x y H Q ∨ r' x y H Q) := h.or h'
theorem PE.or {X : Cx} {e : Expr} {t t' : TE} (a : PE X e t) (b : PE X e t') : PE X e (fun σ H Q => t σ H Q ∨ t' σ H Q) :=
  ⟨fun pins s σ H Q I q => q.elim (a.run pins s σ H Q I) (b.run pins s σ H Q I)⟩

/-! ### names, constants -/
def fvar (i : Nat) : FE := fun L s => match L[i]? with | some (some d) => some (d, s) | _ => none
def fC (d : D) : FE := fun _ s => some (d, s)
section
variable {X : Cx}
theorem re_var (i : Nat) : RE (tVar i) (fvar i) := by
  intro L st d st' σ H m Q h S l k
  unfold fvar at h
  split at h
  · rename_i d0 e
    cases h
    obtain ⟨v, e', r⟩ := l.loc i _ e
    exact ⟨v, e', k v m H (Ext.refl _ _) S r⟩
  · cases h
theorem se_var (i : Nat) {x : Str} {pos : Pos} (hN : X.N[i]? = some x := by rfl) (hv : Vis X.env.scope x := by first | exact Or.inl rfl | exact Or.inr (Or.inl rfl) | exact Or.inr (Or.inr rfl)) (hd : (x == ("__debug__" : Str)) = false := by decide)
    (hcd : (x == ("__classdict__" : Str)) = false := by decide) : SE X (.Name x pos) (fvar i) := ⟨_, pe_var hN hv hd hcd, re_var i⟩
theorem re_C {d : D} {v : V} (h : ∀ m H, VR m H d v) : RE (tC v) (fC d) := by
  intro L st d' st' σ H m Q e S l k
  cases e
  exact k v m H (Ext.refl _ _) S (h m H)
theorem se_int {i : Int} {j : Nat} {pos : Pos} : SE X (.Constant (.int i) j pos) (fC (.int i)) := ⟨_, pe_int, re_C fun _ _ => by simp [VR]⟩
theorem se_bl {b : Bool} {j : Nat} {pos : Pos} : SE X (.Constant (.bool b) j pos) (fC (.bl b)) := ⟨_, pe_bl, re_C fun _ _ => by simp [VR]⟩
theorem se_non {j : Nat} {pos : Pos} : SE X (.Constant .none j pos) (fC .non) := ⟨_, pe_non, re_C fun _ _ => by simp [VR]⟩
theorem se_str {x : Str} {j : Nat} {pos : Pos} : SE X (.Constant (.str x) j pos) (fC (.str x)) := ⟨_, pe_str, re_C fun _ _ => by simp [VR]⟩
/-- a module's constant -/
theorem se_globI {x : Str} {i : Int} {t : Tok} {pos : Pos} (hg : Gl X x) (hm : X.mg x = some (.int i t)) (hd : (x == ("__debug__" : Str)) = false := by decide) : SE X (.Name x pos) (fC (.int i)) :=
  ⟨_, pe_glob (v := .int i) hg hm ⟨t, rfl⟩ hd, re_C fun _ _ => by simp [VR]⟩
theorem se_globS {x y : Str} {t : Tok} {pos : Pos} (hg : Gl X x) (hm : X.mg x = some (.str y t)) (hd : (x == ("__debug__" : Str)) = false := by decide) : SE X (.Name x pos) (fC (.str y)) :=
  ⟨_, pe_glob (v := .str y) hg hm ⟨t, rfl⟩ hd, re_C fun _ _ => by simp [VR]⟩

/-! ### argument lists, displays -/
def fA0 : FA := fun _ s => some ([], s)
def fAc (f : FE) (g : FA) : FA := fun L s => (f L s).bind fun p => (g L p.2).bind fun q => some (p.1 :: q.1, q.2)
theorem sa_nil : SA X [] fA0 := ⟨_, pa_nil, fun L st ds st' σ H m Q h S l k => by
  cases h
  exact k [] m H (Ext.refl _ _) S (by simp [VRs])⟩
theorem sa_cons {e : Expr} {es : List Expr} {f : FE} {g : FA} (ha : SE X e f) (hr : SA X es g) (hs : starEach (e :: es) X.env = (false, eval e X.env) :: starEach es X.env := by rfl) : SA X (e :: es) (fAc f g) := by
  obtain ⟨ta, pa, ra⟩ := ha
  obtain ⟨tr, pr, rr⟩ := hr
  refine ⟨_, pa_cons pa pr hs, fun L st ds st' σ H m Q h S l k => ?_⟩
  obtain ⟨⟨x, s1⟩, h1, h⟩ := Option.bind_eq_some_iff.mp h
  obtain ⟨⟨xs, s2⟩, h2, h⟩ := Option.bind_eq_some_iff.mp h
  cases h
  refine ra L st x s1 σ H m _ h1 S l fun v m1 H1 e1 S1 r1 => ?_
  refine rr L s1 xs s2 σ H1 m1 _ h2 S1 (l.ext e1) fun vs m2 H2 e2 S2 r2 => ?_
  exact k (v :: vs) m2 H2 (e1.trans e2) S2 ⟨v, vs, rfl, r1.ext e2, r2⟩
def fTup (g : FA) : FE := fun L s => (g L s).bind fun q => if q.1.length ≤ sizeLine then some (.tup q.1, q.2) else none
def fLst (g : FA) : FE := fun L s => (g L s).bind fun q => if q.1.length ≤ sizeLine then some (.ref q.2.length, q.2 ++ [.lst q.1]) else none
theorem VRs.len {m : List Addr} {H : Hp} : ∀ {ds : List D} {vs : List V}, VRs m H ds vs → ds.length = vs.length
  | [], _, h => by
    rw [show _ = [] from h]
    rfl
  | d :: ds, _, h => by
    obtain ⟨v, r, e, _, h2⟩ := h
    rw [e, List.length_cons, List.length_cons, VRs.len h2]
theorem se_tup {es : List Expr} {g : FA} {k : Nat} {pos : Pos} (h : SA X es g) : SE X (.Tuple es k pos) (fTup g) := by
  obtain ⟨t, p, r⟩ := h
  refine ⟨_, pe_tup p, fun L st d st' σ H m Q h S l k => ?_⟩
  obtain ⟨⟨ds, s1⟩, h1, h⟩ := Option.bind_eq_some_iff.mp h
  simp only at h
  split at h
  · rename_i hz
    cases h
    refine r L st ds _ σ H m _ h1 S l fun vs m1 H1 e1 S1 r1 => ⟨by rw [← r1.len]; exact hz, fun q hq => ?_⟩
    exact k _ m1 _ (e1.trans (ext_tup hq)) (S1.laidT hq) ⟨q, vs, rfl, upd_same, r1.ext (ext_tup hq)⟩
  · cases h
theorem se_lst {es : List Expr} {g : FA} {pos : Pos} (h : SA X es g) : SE X (.List es pos) (fLst g) := by
  obtain ⟨t, p, r⟩ := h
  refine ⟨_, pe_lst p, fun L st d st' σ H m Q h S l k => ?_⟩
  obtain ⟨⟨ds, s1⟩, h1, h⟩ := Option.bind_eq_some_iff.mp h
  simp only at h
  split at h
  · rename_i hz
    cases h
    refine r L st ds s1 σ H m _ h1 S l fun vs m1 H1 e1 S1 r1 => ⟨by rw [← r1.len]; exact hz, fun q hq => ?_⟩
    refine k _ (m1 ++ [q]) _ (e1.trans (ext_new hq)) (S1.laid hq ⟨vs, upd_same, r1.ext (ext_new hq)⟩) ⟨q, rfl, ?_⟩
    rw [← S1.len, List.getElem?_concat_length]
  · cases h

/-! ### operations of one, two values; calls of built-ins -/
def fE1 (fo : F1) (f : FE) : FE := fun L s => (f L s).bind fun p => fo p.1 p.2
def fE2 (fo : F2) (f g : FE) : FE := fun L s => (f L s).bind fun p => (g L p.2).bind fun q => fo p.1 q.1 q.2
def fCB (fo : FF) (g : FA) : FE := fun L s => (g L s).bind fun q => fo q.1 q.2
theorem re_1 {r : V → Hp → VK → Prop} {fo : F1} {t : TE} {f : FE} (h : O1 r fo) (ha : RE t f) : RE (tUn r t) (fE1 fo f) := by
  intro L st d st' σ H m Q e S l k
  obtain ⟨⟨x, s1⟩, h1, e⟩ := Option.bind_eq_some_iff.mp e
  exact ha L st x s1 σ H m _ h1 S l fun v m1 H1 e1 S1 r1 => h x s1 d st' H1 m1 v Q e S1 r1 fun u m2 H2 e2 => k u m2 H2 (e1.trans e2)
theorem re_2 {r : R2} {fo : F2} {ta tb : TE} {f g : FE} (h : O2 r fo) (ha : RE ta f) (hb : RE tb g) : RE (tOp r ta tb) (fE2 fo f g) := by
  intro L st d st' σ H m Q e S l k
  obtain ⟨⟨x, s1⟩, h1, e⟩ := Option.bind_eq_some_iff.mp e
  obtain ⟨⟨y, s2⟩, h2, e⟩ := Option.bind_eq_some_iff.mp e
  refine ha L st x s1 σ H m _ h1 S l fun v m1 H1 e1 S1 r1 => ?_
  refine hb L s1 y s2 σ H1 m1 _ h2 S1 (l.ext e1) fun w m2 H2 e2 S2 r2 => ?_
  exact h x y s2 d st' H2 m2 v w Q e S2 (r1.ext e2) r2 fun u m3 H3 e3 => k u m3 H3 ((e1.trans e2).trans e3)
theorem re_cb {r : List V → Hp → VK → Prop} {fo : FF} {t : TA} {g : FA} (h : OC r fo) (ha : RA t g) : RE (tCB r t) (fCB fo g) := by
  intro L st d st' σ H m Q e S l k
  obtain ⟨⟨x, s1⟩, h1, e⟩ := Option.bind_eq_some_iff.mp e
  exact ha L st x s1 σ H m _ h1 S l fun v m1 H1 e1 S1 r1 => h x s1 d st' H1 m1 v Q e S1 r1 fun u m2 H2 e2 => k u m2 H2 (e1.trans e2)
section
variable {a b : Expr} {fa fb : FE} {pos : Pos} {r : R2} {fo : F2}
theorem se_op {op : Operator} (ho : OpR X (binaryOp op) r) (h : O2 r fo) (ha : SE X a fa) (hb : SE X b fb) : SE X (.BinOp a op b pos) (fE2 fo fa fb) := by
  obtain ⟨ta, pa, ra⟩ := ha
  obtain ⟨tb, pb, rb⟩ := hb
  exact ⟨_, pe_op ho pa pb, re_2 h ra rb⟩
theorem se_un {op : UnaryOp} {r : V → Hp → VK → Prop} {fo : F1} (ho : UnR X (unaryOp op) r) (h : O1 r fo) (ha : SE X a fa) : SE X (.UnaryOp op a pos) (fE1 fo fa) := by
  obtain ⟨ta, pa, ra⟩ := ha
  exact ⟨_, pe_un ho pa, re_1 h ra⟩
theorem se_cmp {op : CmpOp} (ho : OpR X (compareOp op) r) (h : O2 r fo) (ha : SE X a fa) (hb : SE X b fb) (hm : behindInMarks op b = false) : SE X (.Compare a [op] [b] pos) (fE2 fo fa fb) := by
  obtain ⟨ta, pa, ra⟩ := ha
  obtain ⟨tb, pb, rb⟩ := hb
  exact ⟨_, pe_cmpR ho pa pb hm, re_2 h ra rb⟩
theorem se_ix (hr : IxR X r) (h : O2 r fo) (ha : SE X a fa) (hb : SE X b fb) (hs : PlainIx b) : SE X (.Subscript a b pos) (fE2 fo fa fb) := by
  obtain ⟨ta, pa, ra⟩ := ha
  obtain ⟨tb, pb, rb⟩ := hb
  exact ⟨_, pe_ix hr pa pb hs, re_2 h ra rb⟩
theorem se_callB {x : Str} {p : Pos} {e : Expr} {es : List Expr} {id : String} {rc : List V → Hp → VK → Prop} {fc : FF} {g : FA} (hc : CallR X (.builtin id) rc) (h : OC rc fc) (hg : Gl X x) (hm : X.mg x = none) (hv : bootBuiltins x = some (.builtin id)) (ha : SA X (e :: es) g)
    (hn : x ≠ "__name__" := by decide) (hdb : (x == ("__debug__" : Str)) = false := by decide) (he : starEach (e :: es) X.env = (false, eval e X.env) :: starEach es X.env := by rfl) (hpl : (backTo pos (starEach es X.env)).any (·.1) = false := by rfl) :
    SE X (.Call (.Name x p) (e :: es) [] pos) (fCB fc g) := by
  obtain ⟨ta, pa, ra⟩ := ha
  exact ⟨_, pe_callB hc hg hm hv pa hn hdb he hpl, re_cb h ra⟩
theorem se_callTy {x : Str} {p : Pos} {e : Expr} {es : List Expr} {T : String} {rc : List V → Hp → VK → Prop} {fc : FF} {g : FA} (hc : CallR X (.type T) rc) (h : OC rc fc) (hg : Gl X x) (hm : X.mg x = none) (hv : bootBuiltins x = some (.type T)) (ha : SA X (e :: es) g)
    (hn : x ≠ "__name__" := by decide) (hdb : (x == ("__debug__" : Str)) = false := by decide) (he : starEach (e :: es) X.env = (false, eval e X.env) :: starEach es X.env := by rfl) (hpl : (backTo pos (starEach es X.env)).any (·.1) = false := by rfl) :
    SE X (.Call (.Name x p) (e :: es) [] pos) (fCB fc g) := by
  obtain ⟨ta, pa, ra⟩ := ha
  exact ⟨_, pe_callTy hc hg hm hv pa hn hdb he hpl, re_cb h ra⟩
end
/-- what lies above is forgotten -/
def fgc (f : FE) : FE := fun L s => (f L s).bind fun p => some (gc s p.1 p.2)
theorem gc_ok {m : List Addr} {H : Hp} {st st1 st' : Sto} {d d' : D} {Q : VK} (S : SimO m H st) (e : gc st d st1 = (d', st')) (k : ∀ v m' H', Ext m H m' H' → SimO m' H' st' → VR m' H' d' v → Q v H') :
    ∀ v m' H', Ext m H m' H' → SimO m' H' st1 → VR m' H' d v → Q v H' := by
  intro v m' H' x S' r
  unfold gc at e
  split at e
  · rename_i hc
    simp only [Bool.and_eq_true] at hc
    cases e
    obtain ⟨⟨rr, em⟩, xt, xf⟩ := x
    subst em
    refine k v m H' ⟨⟨[], (List.append_nil m).symm⟩, xt, xf⟩ (S.cut S' hc.2) (r.cut ?_)
    rw [S.len]
    exact hc.1
  · cases e
    exact k v m' H' x S' r
theorem se_gc {e : Expr} {f : FE} (h : SE X e f) : SE X e (fgc f) := by
  obtain ⟨t, p, r⟩ := h
  refine ⟨t, p, fun L st d st' σ H m Q h S l k => ?_⟩
  obtain ⟨⟨d1, s1⟩, h1, h⟩ := Option.bind_eq_some_iff.mp h
  exact r L st d1 s1 σ H m Q h1 S l (gc_ok S (Option.some.inj h) k)

/-! ### tests -/
def fTb (f : FE) : FT := fun L s => (f L s).bind fun p => match p.1 with | .bl b => some (b, p.2) | _ => none
theorem rt_b {t : TE} {f : FE} (h : RE t f) : RT (tB t) (fTb f) := by
  intro L st b st' σ H m Q e S l k
  obtain ⟨⟨x, s1⟩, h1, e⟩ := Option.bind_eq_some_iff.mp e
  refine h L st x s1 σ H m _ h1 S l fun v m1 H1 e1 S1 r1 => ?_
  cases x with
  | bl c =>
    cases e
    exact ⟨_, r1, k m1 H1 e1 S1⟩
  | _ => cases e
theorem st_val {e : Expr} {f : FE} (h : SE X e f) (he : ∀ whole, isTrue e X.env whole = (do let v ← whole; standAt e.pos; holding [v] (truthy v)) := by intro _; rfl) : ST X e (fTb f) := by
  obtain ⟨t, p, r⟩ := h
  exact ⟨_, pt_val p he, rt_b r⟩
section
variable {a b : Expr} {fa fb fc : FE} {pos : Pos} {r r' : R2} {fo fo' : F2}
theorem st_cmp {op : CmpOp} (ho : OpR X (compareOp op) r) (h : O2 r fo) (ha : SE X a fa) (hb : SE X b fb) (hm : behindInMarks op b = false) : ST X (.Compare a [op] [b] pos) (fTb (fE2 fo fa fb)) := by
  obtain ⟨ta, pa, ra⟩ := ha
  obtain ⟨tb, pb, rb⟩ := hb
  exact ⟨_, pt_cmpR ho pa pb hm, rt_b (re_2 h ra rb)⟩
def fChain (fo fo' : F2) (f g h : FE) : FE := fun L s => (f L s).bind fun p => (g L p.2).bind fun q => (fo p.1 q.1 q.2).bind fun z => match z.1 with
  | .bl true => (h L z.2).bind fun w => fo' q.1 w.1 w.2
  | .bl false => some (.bl false, z.2)
  | _ => none
theorem re_chain {ta tb tc : TE} (h : O2 r fo) (h' : O2 r' fo') (ha : RE ta fa) (hb : RE tb fb) (hc : RE tc fc) : RE (tChain r r' ta tb tc) (fChain fo fo' fa fb fc) := by
  intro L st d st' σ H m Q e S l k
  obtain ⟨⟨x, s1⟩, h1, e⟩ := Option.bind_eq_some_iff.mp e
  obtain ⟨⟨y, s2⟩, h2, e⟩ := Option.bind_eq_some_iff.mp e
  obtain ⟨⟨z, s3⟩, h3, e⟩ := Option.bind_eq_some_iff.mp e
  refine ha L st x s1 σ H m _ h1 S l fun v m1 H1 e1 S1 r1 => ?_
  refine hb L s1 y s2 σ H1 m1 _ h2 S1 (l.ext e1) fun w m2 H2 e2 S2 r2 => ?_
  refine h x y s2 z s3 H2 m2 v w _ h3 S2 (r1.ext e2) r2 fun u m3 H3 e3 S3 r3 => ?_
  have e12 := e1.trans e2
  cases z with
  | bl c =>
    cases c with
    | true =>
      obtain ⟨⟨z4, s4⟩, h4, e⟩ := Option.bind_eq_some_iff.mp e
      refine ⟨true, r3, ?_⟩
      rw [if_pos rfl]
      refine hc L s3 z4 s4 σ H3 m3 _ h4 S3 (l.ext (e12.trans e3)) fun w4 m4 H4 e4 S4 r4 => ?_
      exact h' y z4 s4 d st' H4 m4 w w4 Q e S4 ((r2.ext e3).ext e4) r4 fun u5 m5 H5 e5 => k u5 m5 H5 (((e12.trans e3).trans e4).trans e5)
    | false =>
      cases e
      refine ⟨false, r3, ?_⟩
      rw [if_neg Bool.false_ne_true]
      exact k _ m3 H3 (e12.trans e3) S3 (by simp [VR])
  | _ => cases e
theorem se_chain {c : Expr} {op op' : CmpOp} (ho : OpR X (compareOp op) r) (h : O2 r fo) (ho' : OpR X (compareOp op') r') (h' : O2 r' fo') (ha : SE X a fa) (hb : SE X b fb) (hc : SE X c fc)
    (hm : lastMarks [op, op'] [b, c] = false := by with_unfolding_all rfl) : SE X (.Compare a [op, op'] [b, c] pos) (fChain fo fo' fa fb fc) := by
  obtain ⟨ta, pa, ra⟩ := ha
  obtain ⟨tb, pb, rb⟩ := hb
  obtain ⟨tc, pc, rc⟩ := hc
  exact ⟨_, pe_chain ho ho' pa pb pc hm, re_chain h h' ra rb rc⟩
theorem st_chain {c : Expr} {op op' : CmpOp} (ho : OpR X (compareOp op) r) (h : O2 r fo) (ho' : OpR X (compareOp op') r') (h' : O2 r' fo') (ha : SE X a fa) (hb : SE X b fb) (hc : SE X c fc)
    (hm : lastMarks [op, op'] [b, c] = false := by with_unfolding_all rfl) : ST X (.Compare a [op, op'] [b, c] pos) (fTb (fChain fo fo' fa fb fc)) := by
  obtain ⟨ta, pa, ra⟩ := ha
  obtain ⟨tb, pb, rb⟩ := hb
  obtain ⟨tc, pc, rc⟩ := hc
  exact ⟨_, pt_chain ho ho' pa pb pc hm, rt_b (re_chain h h' ra rb rc)⟩
end
/-! and, or, not -/
def fAnd (f g : FT) : FT := fun L s => (f L s).bind fun p => if p.1 = true then g L p.2 else some (false, p.2)
def fOr (f g : FT) : FT := fun L s => (f L s).bind fun p => if p.1 = true then some (true, p.2) else g L p.2
def fNot (f : FT) : FT := fun L s => (f L s).bind fun p => some (!p.1, p.2)
section
variable {a b : Expr} {rest : List Expr} {f g : FT} {pos : Pos}
theorem rt_and {t u : TT} (ha : RT t f) (hb : RT u g) : RT (tAnd t u) (fAnd f g) := by
  intro L st d st' σ H m Q e S l k
  obtain ⟨⟨x, s1⟩, h1, e⟩ := Option.bind_eq_some_iff.mp e
  refine ha L st x s1 σ H m _ h1 S l fun m1 H1 e1 S1 => ?_
  cases x with
  | true => rw [if_pos rfl] at e ⊢; exact hb L s1 d st' σ H1 m1 Q e S1 (l.ext e1) fun m2 H2 e2 => k m2 H2 (e1.trans e2)
  | false =>
    rw [if_neg Bool.false_ne_true] at e ⊢
    cases e
    exact k m1 H1 e1 S1
theorem rt_or {t u : TT} (ha : RT t f) (hb : RT u g) : RT (tOr t u) (fOr f g) := by
  intro L st d st' σ H m Q e S l k
  obtain ⟨⟨x, s1⟩, h1, e⟩ := Option.bind_eq_some_iff.mp e
  refine ha L st x s1 σ H m _ h1 S l fun m1 H1 e1 S1 => ?_
  cases x with
  | true =>
    rw [if_pos rfl] at e ⊢
    cases e
    exact k m1 H1 e1 S1
  | false => rw [if_neg Bool.false_ne_true] at e ⊢; exact hb L s1 d st' σ H1 m1 Q e S1 (l.ext e1) fun m2 H2 e2 => k m2 H2 (e1.trans e2)
theorem rt_not {t : TT} (ha : RT t f) : RT (tNot t) (fNot f) := by
  intro L st d st' σ H m Q e S l k
  obtain ⟨⟨x, s1⟩, h1, e⟩ := Option.bind_eq_some_iff.mp e
  cases e
  exact ha L st x s1 σ H m _ h1 S l fun m1 H1 e1 S1 => k m1 H1 e1 S1
theorem sw_and1 (h : ST X a f) : SW X (.BoolOp .And [a] pos) f := let ⟨t, p, r⟩ := h; ⟨t, pw_and1 p, r⟩
theorem sw_or1 (h : ST X a f) : SW X (.BoolOp .Or [a] pos) f := let ⟨t, p, r⟩ := h; ⟨t, pw_or1 p, r⟩
theorem sw_and (ha : ST X a f) (hb : SW X (.BoolOp .And (b :: rest) pos) g) : SW X (.BoolOp .And (a :: b :: rest) pos) (fAnd f g) := by
  obtain ⟨ta, pa, ra⟩ := ha
  obtain ⟨tb, pb, rb⟩ := hb
  exact ⟨_, pw_and pa pb, rt_and ra rb⟩
theorem sw_or (ha : ST X a f) (hb : SW X (.BoolOp .Or (b :: rest) pos) g) : SW X (.BoolOp .Or (a :: b :: rest) pos) (fOr f g) := by
  obtain ⟨ta, pa, ra⟩ := ha
  obtain ⟨tb, pb, rb⟩ := hb
  exact ⟨_, pw_or pa pb, rt_or ra rb⟩
theorem st_not (ha : ST X a f) : ST X (.UnaryOp .Not a pos) (fNot f) := by
  obtain ⟨ta, pa, ra⟩ := ha
  exact ⟨_, pt_not pa, rt_not ra⟩
end
/-! .. as values -/
def fAndV (f g : FE) : FE := fun L s => (f L s).bind fun p => match p.1 with | .bl true => g L p.2 | .bl false => some (.bl false, p.2) | _ => none
def fOrV (f g : FE) : FE := fun L s => (f L s).bind fun p => match p.1 with | .bl true => some (.bl true, p.2) | .bl false => g L p.2 | _ => none
def fNotV (f : FE) : FE := fun L s => (f L s).bind fun p => match p.1 with | .bl b => some (.bl (!b), p.2) | _ => none
section
variable {a b : Expr} {rest : List Expr} {f g : FE} {pos : Pos}
theorem se_one {op : BoolOp} (h : SE X a f) : SE X (.BoolOp op [a] pos) f := let ⟨t, p, r⟩ := h; ⟨t, pe_one p, r⟩
theorem se_and (ha : SE X a f) (hb : SE X (.BoolOp .And (b :: rest) pos) g) : SE X (.BoolOp .And (a :: b :: rest) pos) (fAndV f g) := by
  obtain ⟨ta, pa, ra⟩ := ha
  obtain ⟨tb, pb, rb⟩ := hb
  refine ⟨_, pe_and pa pb, fun L st d st' σ H m Q e S l k => ?_⟩
  obtain ⟨⟨x, s1⟩, h1, e⟩ := Option.bind_eq_some_iff.mp e
  refine ra L st x s1 σ H m _ h1 S l fun v m1 H1 e1 S1 r1 => ?_
  cases x with
  | bl c =>
    refine ⟨c, r1, ?_⟩
    cases c with
    | true => rw [if_pos rfl]; exact rb L s1 d st' σ H1 m1 Q e S1 (l.ext e1) fun v2 m2 H2 e2 => k v2 m2 H2 (e1.trans e2)
    | false =>
      rw [if_neg Bool.false_ne_true]
      cases e
      exact k _ m1 H1 e1 S1 (by simp [VR])
  | _ => cases e
theorem se_or (ha : SE X a f) (hb : SE X (.BoolOp .Or (b :: rest) pos) g) : SE X (.BoolOp .Or (a :: b :: rest) pos) (fOrV f g) := by
  obtain ⟨ta, pa, ra⟩ := ha
  obtain ⟨tb, pb, rb⟩ := hb
  refine ⟨_, pe_or pa pb, fun L st d st' σ H m Q e S l k => ?_⟩
  obtain ⟨⟨x, s1⟩, h1, e⟩ := Option.bind_eq_some_iff.mp e
  refine ra L st x s1 σ H m _ h1 S l fun v m1 H1 e1 S1 r1 => ?_
  cases x with
  | bl c =>
    refine ⟨c, r1, ?_⟩
    cases c with
    | true =>
      rw [if_pos rfl]
      cases e
      exact k _ m1 H1 e1 S1 (by simp [VR])
    | false => rw [if_neg Bool.false_ne_true]; exact rb L s1 d st' σ H1 m1 Q e S1 (l.ext e1) fun v2 m2 H2 e2 => k v2 m2 H2 (e1.trans e2)
  | _ => cases e
theorem se_not (ha : SE X a f) : SE X (.UnaryOp .Not a pos) (fNotV f) := by
  obtain ⟨ta, pa, ra⟩ := ha
  refine ⟨_, pe_not pa, fun L st d st' σ H m Q e S l k => ?_⟩
  obtain ⟨⟨x, s1⟩, h1, e⟩ := Option.bind_eq_some_iff.mp e
  refine ra L st x s1 σ H m _ h1 S l fun v m1 H1 e1 S1 r1 => ?_
  cases x with
  | bl c =>
    cases e
    exact ⟨c, r1, k _ m1 H1 e1 S1 (by simp [VR])⟩
  | _ => cases e
def fIf (c : FT) (f g : FE) : FE := fun L s => (c L s).bind fun p => if p.1 = true then f L p.2 else g L p.2
theorem se_if {c : Expr} {fc : FT} (hc : ST X c fc) (ha : SE X a f) (hb : SE X b g) : SE X (.IfExp c a b pos) (fIf fc f g) := by
  obtain ⟨tc, pc, rc⟩ := hc
  obtain ⟨ta, pa, ra⟩ := ha
  obtain ⟨tb, pb, rb⟩ := hb
  refine ⟨_, pe_ifExp pc pa pb, fun L st d st' σ H m Q e S l k => ?_⟩
  obtain ⟨⟨x, s1⟩, h1, e⟩ := Option.bind_eq_some_iff.mp e
  refine rc L st x s1 σ H m _ h1 S l fun m1 H1 e1 S1 => ?_
  cases x with
  | true => rw [if_pos rfl] at e ⊢; exact ra L s1 d st' σ H1 m1 Q e S1 (l.ext e1) fun v2 m2 H2 e2 => k v2 m2 H2 (e1.trans e2)
  | false => rw [if_neg Bool.false_ne_true] at e ⊢; exact rb L s1 d st' σ H1 m1 Q e S1 (l.ext e1) fun v2 m2 H2 e2 => k v2 m2 H2 (e1.trans e2)
end
end
end FL

set_option Elab.async false
set_option linter.all false
set_option maxRecDepth 100000
set_option autoImplicit false
namespace FL
open PySem PySem.Spec PyProof.Rows L2

abbrev Loc' (X : Cx) (x : Str) : Prop := L2.Loc X.env.scope x
theorem VRs.snoc {m : List Addr} {H : Hp} : ∀ {ds : List D} {vs : List V} {d : D} {v : V}, VRs m H ds vs → VR m H d v → VRs m H (ds ++ [d]) (vs ++ [v])
  | [], _, d, v, h, r => by
    rw [show _ = [] from h]
    exact ⟨v, [], rfl, r, rfl⟩
  | e :: ds, _, d, v, h, r => by
    obtain ⟨w, t, ew, h1, h2⟩ := h
    rw [ew]
    exact ⟨w, t ++ [v], rfl, h1, VRs.snoc h2 r⟩

/-! ## the reading that a function gives, whatever the term of rules -/
def tf (f : FE) : TE := fun σ H Q => ∃ (L : Loc) (st : Sto) (d : D) (st' : Sto) (m : List Addr), f L st = some (d, st') ∧ SimO m H st ∧ LR m H L σ ∧ ∀ v m' H', Ext m H m' H' → SimO m' H' st' → VR m' H' d v → Q v H'
def tft (f : FT) : TT := fun σ H Q => ∃ (L : Loc) (st : Sto) (d : Bool) (st' : Sto) (m : List Addr), f L st = some (d, st') ∧ SimO m H st ∧ LR m H L σ ∧ ∀ m' H', Ext m H m' H' → SimO m' H' st' → Q d H'
theorem re_tf (f : FE) : RE (tf f) f := fun L st d st' _ _ m _ h S l k => ⟨L, st, d, st', m, h, S, l, k⟩
theorem rt_tft (f : FT) : RT (tft f) f := fun L st d st' _ _ m _ h S l k => ⟨L, st, d, st', m, h, S, l, k⟩
section
variable {X : Cx}
theorem SE.pe {e : Expr} {f : FE} (h : SE X e f) : PE X e (tf f) := by
  obtain ⟨t, p, r⟩ := h
  exact ⟨fun pins s σ H Q I ⟨L, st, d, st', m, h1, S, l, k⟩ => p.run pins s σ H Q I (r L st d st' σ H m Q h1 S l k)⟩
theorem ST.pt {e : Expr} {f : FT} (h : ST X e f) : PT X e (tft f) := by
  obtain ⟨t, p, r⟩ := h
  exact ⟨fun pins s σ H Q I ⟨L, st, d, st', m, h1, S, l, k⟩ => p.run pins s σ H Q I (r L st d st' σ H m Q h1 S l k)⟩
end

/-! ## targets -/
abbrev FG := D → Loc → Sto → Option (Loc × Sto)
abbrev FGs := List D → Loc → Sto → Option (Loc × Sto)
/-- own: the slots that it may set -/
def RG (t : TG) (f : FG) (own : List Nat) : Prop := ∀ (d : D) (L : Loc) (st : Sto) (L' : Loc) (st' : Sto) (v : V) (σ : L2.St) (H : Hp) (m : List Addr) (Q : L2.St → Hp → Prop), f d L st = some (L', st') → SimO m H st → LR m H L σ → VR m H d v →
  (∀ σ' m' H', Ext m H m' H' → SimO m' H' st' → LR m' H' L' σ' → σ'.length = σ.length → (∀ i, i ∉ own → σ'[i]? = σ[i]?) → Q σ' H') → t v σ H Q
def RGs (t : TGs) (f : FGs) (own : List Nat) : Prop := ∀ (ds : List D) (L : Loc) (st : Sto) (L' : Loc) (st' : Sto) (vs : List V) (σ : L2.St) (H : Hp) (m : List Addr) (Q : L2.St → Hp → Prop), f ds L st = some (L', st') → SimO m H st → LR m H L σ → VRs m H ds vs →
  (∀ σ' m' H', Ext m H m' H' → SimO m' H' st' → LR m' H' L' σ' → σ'.length = σ.length → (∀ i, i ∉ own → σ'[i]? = σ[i]?) → Q σ' H') → t vs σ H Q
def SG (X : Cx) (tg : Expr) (f : FG) (own : List Nat) : Prop := ∃ t, PG X tg t ∧ RG t f own
def SGs (X : Cx) (tgs : List Expr) (f : FGs) (own : List Nat) : Prop := ∃ t, PGs X tgs t ∧ RGs t f own
def tfg (f : FG) : TG := fun v σ H Q => ∃ (d : D) (L : Loc) (st : Sto) (L' : Loc) (st' : Sto) (m : List Addr), f d L st = some (L', st') ∧ SimO m H st ∧ LR m H L σ ∧ VR m H d v ∧
  ∀ σ' m' H', Ext m H m' H' → SimO m' H' st' → LR m' H' L' σ' → σ'.length = σ.length → Q σ' H'
def fNm (i : Nat) : FG := fun d L s => some (L.set i (some d), s)
def fG0 : FGs := fun ds L s => match ds with | [] => some (L, s) | _ => none
def fGc (f : FG) (g : FGs) : FGs := fun ds L s => match ds with | d :: r => (f d L s).bind fun p => g r p.1 p.2 | [] => none
def fGt (n : Nat) (g : FGs) : FG := fun d L s => match d with | .tup ds => if ds.length = n then g ds L s else none | .ft ds => if ds.length = n then g ds L s else none | _ => none
section
variable {X : Cx}
theorem sg_name {i : Nat} {x : Str} {pos : Pos} (hN : X.N.Nodup) (hi : X.N[i]? = some x) (hx : Loc' X x) (hf : X.fn x = true ∨ X.env.scope.names.lookup x = some .local := by first | exact .inl rfl | exact .inr rfl | assumption) : SG X (.Name x pos) (fNm i) [i] := by
  refine ⟨_, pg_name hN hi hx hf, fun d L st L' st' v σ H m Q h S l r k => ?_⟩
  cases h
  refine k _ m H (Ext.refl _ _) S (l.set i r) (by simp) fun j hj => ?_
  rw [List.getElem?_set_ne]
  simpa [eq_comm] using hj
theorem sgs_nil : SGs X [] fG0 [] := ⟨_, pgs_nil, fun ds L st L' st' vs σ H m Q h S l r k => by
  cases ds with
  | nil =>
    cases h
    exact ⟨r, k σ m H (Ext.refl _ _) S l rfl fun _ _ => rfl⟩
  | cons _ _ => cases h⟩
theorem sgs_cons {e : Expr} {es : List Expr} {f : FG} {g : FGs} {o1 o2 : List Nat} (h1 : SG X e f o1) (h2 : SGs X es g o2)
    (hs : (assignEach (e :: es) X.env).map (·.2) = assign e X.env :: (assignEach es X.env).map (·.2) := by rfl) : SGs X (e :: es) (fGc f g) (o1 ++ o2) := by
  obtain ⟨t1, p1, r1⟩ := h1
  obtain ⟨t2, p2, r2⟩ := h2
  refine ⟨_, pgs_cons p1 p2 hs, fun ds L st L' st' vs σ H m Q h S l r k => ?_⟩
  cases ds with
  | nil => cases h
  | cons d ds =>
    obtain ⟨⟨L1, s1⟩, e1, h⟩ := Option.bind_eq_some_iff.mp h
    obtain ⟨v, vr, ev, rv, rr⟩ := r
    refine ⟨v, vr, ev, r1 d L st L1 s1 v σ H m _ e1 S l rv fun σ1 m1 H1 x1 S1 l1 z1 w1 => ?_⟩
    refine r2 ds L1 s1 L' st' vr σ1 H1 m1 Q h S1 l1 (rr.ext x1) fun σ2 m2 H2 x2 S2 l2 z2 w2 => ?_
    refine k σ2 m2 H2 (x1.trans x2) S2 l2 (z2.trans z1) fun i hi => ?_
    rw [List.mem_append] at hi
    rw [w2 i fun z => hi (.inr z), w1 i fun z => hi (.inl z)]
theorem sg_tup {es : List Expr} {k : Nat} {g : FGs} {own : List Nat} {n : Nat} {pos : Pos} (hc : X.calm = true) (h : SGs X es g own)
    (hn : (assignEach es X.env).length = n := by rfl) (hst : (assignEach es X.env).findIdx? (·.1) = none := by rfl) : SG X (.Tuple es k pos) (fGt n g) own := by
  obtain ⟨t, p, r⟩ := h
  refine ⟨_, pg_tup hc p hn hst, fun d L st L' st' v σ H m Q h S l rv k => ?_⟩
  cases d with
  | tup ds =>
    simp only [fGt] at h
    split at h
    · rename_i hl
      obtain ⟨a, vs, ev, ha, rs⟩ := rv
      exact ⟨a, vs, ev, SqT.of ha, by rw [← rs.len, hl], r ds L st L' st' vs σ H m Q h S l rs k⟩
    · cases h
  | ft ds =>
    simp only [fGt] at h
    split at h
    · rename_i hl
      obtain ⟨a, o, vs, ev, ha, _, rs⟩ := rv
      exact ⟨a, vs, ev, .inl (.inr ⟨o, ha⟩), by rw [← rs.len, hl], r ds L st L' st' vs σ H m Q h S l rs k⟩
    · cases h
  | _ => cases h
theorem SG.pg {tg : Expr} {f : FG} {own : List Nat} (h : SG X tg f own) : ∃ t, PG X tg t ∧ RG t f own := h
end

/-! ## statements -/
inductive Fl where
  | nx | rt (d : D) | bk | ct
abbrev FS := Loc → Sto → Option (Fl × Loc × Sto)
def EO (E : Ends) (m : List Addr) (H : Hp) : Fl → Loc → Sto → Prop
  | .nx, L', st' => ∀ m' H' σ', Ext m H m' H' → SimO m' H' st' → LR m' H' L' σ' → E.nx σ' H'
  | .rt d, _, st' => ∀ v m' H', Ext m H m' H' → SimO m' H' st' → VR m' H' d v → E.rt v H'
  | .bk, L', st' => ∀ m' H' σ', Ext m H m' H' → SimO m' H' st' → LR m' H' L' σ' → E.bk σ' H'
  | .ct, L', st' => ∀ m' H' σ', Ext m H m' H' → SimO m' H' st' → LR m' H' L' σ' → E.ct σ' H'
theorem EO.ext {E : Ends} {m m1 : List Addr} {H H1 : Hp} {fl : Fl} {L : Loc} {s : Sto} (x : Ext m H m1 H1) (h : EO E m H fl L s) : EO E m1 H1 fl L s := by
  cases fl with
  | nx => exact fun m' H' σ' x' => h m' H' σ' (x.trans x')
  | rt d => exact fun v m' H' x' => h v m' H' (x.trans x')
  | bk => exact fun m' H' σ' x' => h m' H' σ' (x.trans x')
  | ct => exact fun m' H' σ' x' => h m' H' σ' (x.trans x')
def RS (t : TS) (f : FS) : Prop := ∀ (L : Loc) (st : Sto) (fl : Fl) (L' : Loc) (st' : Sto) (σ : L2.St) (H : Hp) (m : List Addr) (E : Ends), f L st = some (fl, L', st') → SimO m H st → LR m H L σ → EO E m H fl L' st' → t E σ H
def SS (X : Cx) (s : Stmt) (f : FS) : Prop := ∃ t, PS X s t ∧ RS t f
def SSs (X : Cx) (s : List Stmt) (f : FS) : Prop := ∃ t, PSs X s t ∧ RS t f
def fNx : FS := fun L s => some (.nx, L, s)
def fSq (f g : FS) : FS := fun L s => (f L s).bind fun p => match p.1 with | .nx => g p.2.1 p.2.2 | _ => some p
def fEx (f : FE) : FS := fun L s => (f L s).bind fun p => some (.nx, L, p.2)
def fRt (f : FE) : FS := fun L s => (f L s).bind fun p => some (.rt p.1, L, p.2)
def fIfS (c : FT) (f g : FS) : FS := fun L s => (c L s).bind fun p => if p.1 = true then f L p.2 else g L p.2
def fAs (f : FE) (g : FG) : FS := fun L s => (f L s).bind fun p => (g p.1 L p.2).bind fun q => some (.nx, q.1, q.2)
def fBk : FS := fun L s => some (.bk, L, s)
def fCt : FS := fun L s => some (.ct, L, s)
def fNo : FS := fun _ _ => none
section
variable {X : Cx} {st : Stmt} {rest : List Stmt} {f g : FS} {e : Expr} {fe : FE} {pos : Pos}
theorem sss_nil : SSs X [] fNx := ⟨_, pss_nil, fun L st fl L' st' σ H m E h S l k => by
  cases h
  exact k m H σ (Ext.refl _ _) S l⟩
theorem sss_cons (h1 : SS X st f) (h2 : SSs X rest g) : SSs X (st :: rest) (fSq f g) := by
  obtain ⟨t1, p1, r1⟩ := h1
  obtain ⟨t2, p2, r2⟩ := h2
  refine ⟨_, pss_cons p1 p2, fun L s fl L' s' σ H m E h S l k => ?_⟩
  obtain ⟨⟨fl1, L1, s1⟩, e1, h⟩ := Option.bind_eq_some_iff.mp h
  refine r1 L s fl1 L1 s1 σ H m _ e1 S l ?_
  cases fl1 with
  | nx => exact fun m1 H1 σ1 x1 S1 l1 => r2 L1 s1 fl L' s' σ1 H1 m1 E h S1 l1 (k.ext x1)
  | rt d => cases h; exact k
  | bk => cases h; exact k
  | ct => cases h; exact k
theorem sss_one (h1 : SS X st f) : SSs X [st] f := let ⟨t, p, r⟩ := h1; ⟨t, pss_one p, r⟩
theorem ss_pass : SS X (.Pass pos) fNx := ⟨_, ps_pass, fun L st fl L' st' σ H m E h S l k => by
  cases h
  exact k m H σ (Ext.refl _ _) S l⟩
theorem ss_break : SS X (.Break pos) fBk := ⟨_, ps_break, fun L st fl L' st' σ H m E h S l k => by
  cases h
  exact k m H σ (Ext.refl _ _) S l⟩
theorem ss_continue : SS X (.Continue pos) fCt := ⟨_, ps_continue, fun L st fl L' st' σ H m E h S l k => by
  cases h
  exact k m H σ (Ext.refl _ _) S l⟩
theorem ss_never : SS X st fNo := ⟨_, ps_never, fun L st fl L' st' σ H m E h S l k => by cases h⟩
theorem sss_never : SSs X rest fNo := ⟨_, pss_never, fun L st fl L' st' σ H m E h S l k => by cases h⟩
theorem ss_expr (he : SE X e fe) (hs : swapsWith e none pos.line X.env = pure false := by rfl) : SS X (.Expr e pos) (fEx fe) := by
  obtain ⟨t, p, r⟩ := he
  refine ⟨_, ps_expr p hs, fun L s fl L' s' σ H m E h S l k => ?_⟩
  obtain ⟨⟨d, s1⟩, e1, h⟩ := Option.bind_eq_some_iff.mp h
  cases h
  exact r L s d s1 σ H m _ e1 S l fun v m1 H1 x1 S1 r1 => k m1 H1 σ x1 S1 (l.ext x1)
theorem ss_ret (he : SE X e fe) : SS X (.Return (some e) pos) (fRt fe) := by
  obtain ⟨t, p, r⟩ := he
  refine ⟨_, ps_ret p, fun L s fl L' s' σ H m E h S l k => ?_⟩
  obtain ⟨⟨d, s1⟩, e1, h⟩ := Option.bind_eq_some_iff.mp h
  cases h
  exact r L s d s1 σ H m _ e1 S l k
theorem ss_if {c : Expr} {a b : List Stmt} {fc : FT} (hc : ST X c fc) (ha : SSs X a f) (hb : SSs X b g) : SS X (.If c a b pos) (fIfS fc f g) := by
  obtain ⟨tc, pc, rc⟩ := hc
  obtain ⟨ta, pa, ra⟩ := ha
  obtain ⟨tb, pb, rb⟩ := hb
  refine ⟨_, ps_if pc pa pb, fun L s fl L' s' σ H m E h S l k => ?_⟩
  obtain ⟨⟨b, s1⟩, e1, h⟩ := Option.bind_eq_some_iff.mp h
  refine rc L s b s1 σ H m _ e1 S l fun m1 H1 x1 S1 => ?_
  cases b with
  | true => rw [if_pos rfl] at h ⊢; exact ra L s1 fl L' s' σ H1 m1 E h S1 (l.ext x1) (k.ext x1)
  | false => rw [if_neg Bool.false_ne_true] at h ⊢; exact rb L s1 fl L' s' σ H1 m1 E h S1 (l.ext x1) (k.ext x1)
theorem rs_as {te : TE} {tg : TG} {fg : FG} {own : List Nat} (re : RE te fe) (rg : RG tg fg own) : RS (tAsg te tg) (fAs fe fg) := by
  intro L s fl L' s' σ H m E h S l k
  obtain ⟨⟨d, s1⟩, e1, h⟩ := Option.bind_eq_some_iff.mp h
  obtain ⟨⟨L2, s2⟩, e2, h⟩ := Option.bind_eq_some_iff.mp h
  cases h
  refine re L s d s1 σ H m _ e1 S l fun v m1 H1 x1 S1 r1 => ?_
  exact rg d L s1 _ _ v σ H1 m1 _ e2 S1 (l.ext x1) r1 fun σ2 m2 H2 x2 S2 l2 _ _ => k m2 H2 σ2 (x1.trans x2) S2 l2
theorem ss_asg {tg : Expr} {fg : FG} {own : List Nat} (he : SE X e fe) (hg : SG X tg fg own) (hs : swapsWithSole [tg] e pos.line X.env = pure false := by rfl) (hw : swappedStores [tg] e X.env = pure none := by rfl)
    (h1 : (assignEach [tg] X.env).map (·.2) = [assign tg X.env] := by rfl) : SS X (.Assign [tg] e pos) (fAs fe fg) := by
  obtain ⟨te, pe, re⟩ := he
  obtain ⟨tg, pg, rg⟩ := hg
  exact ⟨_, ps_asg pe pg hs hw h1, rs_as re rg⟩
theorem ss_set {i : Nat} {x : Str} {pos' : Pos} (hN : X.N.Nodup) (hi : X.N[i]? = some x) (hx : Loc' X x) (he : SE X e fe) (hs : swapsWith e (some (.Name x pos')) pos.line X.env = pure false := by rfl) (hf : X.fn x = true ∨ X.env.scope.names.lookup x = some .local := by first | exact .inl rfl | exact .inr rfl | assumption) :
    SS X (.Assign [.Name x pos'] e pos) (fAs fe (fNm i)) := by
  obtain ⟨te, pe, re⟩ := he
  refine ⟨_, ps_set hN hi hx pe hs hf, rs_as (own := [i]) re fun d L st L' st' v σ H m Q h S l r k => ?_⟩
  cases h
  refine k _ m H (Ext.refl _ _) S (l.set i r) (by simp) fun j hj => ?_
  rw [List.getElem?_set_ne]
  simpa [eq_comm] using hj
/-- a, b = x, y with plain local names -/
def fPar (i j : Nat) (g : FA) : FS := fun L s => (g L s).bind fun q => match q.1 with | [a, b] => some (.nx, (L.set i (some a)).set j (some b), q.2) | _ => none
theorem ss_par {i j : Nat} {x y : Str} {a b : Expr} {ga : FA} {px py pt : Pos} {kt k2 : Nat} {pt2 : Pos} (hc : X.calm = true) (hN : X.N.Nodup) (hi : X.N[i]? = some x) (hj : X.N[j]? = some y) (hij : i ≠ j)
    (hx : X.env.scope.names.lookup x = some .local) (hy : X.env.scope.names.lookup y = some .local) (ha : SA X [a, b] ga)
    (hw : swappedStores [.Tuple [.Name x px, .Name y py] kt pt] (.Tuple [a, b] k2 pt2) X.env = pure (some [x, y]))
    (hs : swapsWithSole [.Tuple [.Name x px, .Name y py] kt pt] (.Tuple [a, b] k2 pt2) pos.line X.env = pure false := by rfl) :
    SS X (.Assign [.Tuple [.Name x px, .Name y py] kt pt] (.Tuple [a, b] k2 pt2) pos) (fPar i j ga) := by
  obtain ⟨t, p, r⟩ := ha
  refine ⟨_, ps_par hc hN hi hj hij hx hy p hw hs, fun L s fl L' s' σ H m E h S l k => ?_⟩
  obtain ⟨⟨ds, s1⟩, e1, h⟩ := Option.bind_eq_some_iff.mp h
  refine r L s ds s1 σ H m _ e1 S l fun vs m1 H1 x1 S1 r1 => ?_
  match ds, h, r1 with
  | [c, d], h, r1 =>
    cases h
    obtain ⟨v, vr, ev, rv, w, wr, ew, rw', ez⟩ := r1
    refine ⟨v, w, by rw [ev, ew, ez], ?_⟩
    exact k m1 H1 _ x1 S1 (((l.ext x1).set i rv).set j rw')
end

/-! ## while -/
def fWh (c : FT) (b : FS) : Nat → Loc → Sto → Option (Fl × Loc × Sto)
  | 0, _, _ => none
  | n + 1, L, s => (c L s).bind fun p => if p.1 = true then (b L p.2).bind fun q => match q.1 with
      | .nx => fWh c b n q.2.1 q.2.2
      | .ct => fWh c b n q.2.1 q.2.2
      | .bk => some (.nx, q.2.1, q.2.2)
      | .rt d => some (.rt d, q.2.1, q.2.2)
    else some (.nx, L, p.2)
theorem rs_while {tc : TT} {tb : TS} {fc : FT} {fb : FS} (n : Nat) (rc : RT tc fc) (rb : RS tb fb) : RS (tWhile tc tb) (fWh fc fb n) := by
  intro L s fl L' s' σ H m E h S l k
  refine ⟨fun j σ1 H1 => ∃ (L1 : Loc) (s1 : Sto) (m1 : List Addr), fWh fc fb j L1 s1 = some (fl, L', s') ∧ SimO m1 H1 s1 ∧ LR m1 H1 L1 σ1 ∧ Ext m H m1 H1, ⟨n, L, s, m, h, S, l, Ext.refl _ _⟩, ?_⟩
  rintro j σ1 H1 ⟨L1, s1, m1, h1, S1, l1, x1⟩
  cases j with
  | zero => cases h1
  | succ j =>
    obtain ⟨⟨b, s2⟩, e2, h1⟩ := Option.bind_eq_some_iff.mp h1
    refine rc L1 s1 b s2 σ1 H1 m1 _ e2 S1 l1 fun m2 H2 x2 S2 => ?_
    have x12 := x1.trans x2
    cases b with
    | false =>
      rw [if_neg Bool.false_ne_true] at h1 ⊢
      cases h1
      exact k m2 H2 σ1 x12 S2 (l1.ext x2)
    | true =>
      rw [if_pos rfl] at h1 ⊢
      obtain ⟨⟨fl3, L3, s3⟩, e3, h1⟩ := Option.bind_eq_some_iff.mp h1
      refine ⟨fun σ' H' => ∃ (L1 : Loc) (s1 : Sto) (m1 : List Addr), fWh fc fb j L1 s1 = some (fl, L', s') ∧ SimO m1 H' s1 ∧ LR m1 H' L1 σ' ∧ Ext m H m1 H', fun σ' H' z => ⟨j, Nat.lt_succ_self j, z⟩, ?_⟩
      refine rb L1 s2 fl3 L3 s3 σ1 H2 m2 _ e3 S2 (l1.ext x2) ?_
      cases fl3 with
      | nx => exact fun m3 H3 σ3 x3 S3 l3 => ⟨L3, s3, m3, h1, S3, l3, x12.trans x3⟩
      | ct => exact fun m3 H3 σ3 x3 S3 l3 => ⟨L3, s3, m3, h1, S3, l3, x12.trans x3⟩
      | bk =>
        cases h1
        exact fun m3 H3 σ3 x3 S3 l3 => k m3 H3 σ3 (x12.trans x3) S3 l3
      | rt d =>
        cases h1
        exact fun v m3 H3 x3 S3 r3 => k v m3 H3 (x12.trans x3) S3 r3
theorem ss_while {X : Cx} {c : Expr} {body : List Stmt} {fc : FT} {fb : FS} {pos : Pos} (n : Nat) (hp : PassesOwn (model X.prog X.w) X.A X.env X.xe) (hc : ST X c fc) (hb : SSs X body fb) : SS X (.While c body [] pos) (fWh fc fb n) := by
  obtain ⟨tc, pc, rc⟩ := hc
  obtain ⟨tb, pb, rb⟩ := hb
  exact ⟨_, ps_while hp pc pb, rs_while n rc rb⟩

/-! ## what is walked -/
/-- the items; an object of the store that must stand as it is -/
structure Wk where
  items : List D
  chk : List (Nat × O)
abbrev FI := Loc → Sto → Option (Wk × Sto)
def stands (cs : List (Nat × O)) (st : Sto) : Bool := cs.all fun c => match st[c.1]? with | some o => O.beq c.2 o | none => false
theorem stands_at {cs : List (Nat × O)} {st : Sto} (h : stands cs st = true) {c : Nat × O} (hc : c ∈ cs) : st[c.1]? = some c.2 := by
  have := List.all_eq_true.mp h c hc
  split at this
  · rename_i o e
    rw [e, O.beq_eq _ _ this]
  · cases this
structure WR (J : It) (wk : Wk) (m₀ : List Addr) (H₀ : Hp) : Prop where
  stop : ∀ (i : Nat) (m : List Addr) (H : Hp) (st : Sto), Ext m₀ H₀ m H → SimO m H st → stands wk.chk st = true → i = wk.items.length → J.stop i H
  go : ∀ (i : Nat) (d : D) (m : List Addr) (H : Hp) (st : Sto), Ext m₀ H₀ m H → SimO m H st → stands wk.chk st = true → wk.items[i]? = some d → J.go i H ∧ ∀ x H', J.yld i H x H' → Ext m H m H' ∧ SimO m H' st ∧ VR m H' d x
def RI (wi : TI) (f : FI) : Prop := ∀ (L : Loc) (st : Sto) (wk : Wk) (st' : Sto) (σ : L2.St) (H : Hp) (m : List Addr) (R : It → Hp → Prop), f L st = some (wk, st') → SimO m H st → LR m H L σ →
  (∀ J m' H', Ext m H m' H' → SimO m' H' st' → WR J wk m' H' → R J H') → wi σ H R
def SI (X : Cx) (tg iter : Expr) (f : FI) : Prop := ∃ wi, PI X tg iter wi ∧ RI wi f
def fLoop (fg : FG) (fb : FS) (c : List (Nat × O)) : List D → Loc → Sto → Option (Fl × Loc × Sto)
  | [], L, s => if stands c s = true then some (.nx, L, s) else none
  | d :: r, L, s => if stands c s = true then (fg d L s).bind fun p => (fb p.1 p.2).bind fun q => match q.1 with
      | .nx => fLoop fg fb c r q.2.1 q.2.2
      | .ct => fLoop fg fb c r q.2.1 q.2.2
      | .bk => some (.nx, q.2.1, q.2.2)
      | .rt d => some (.rt d, q.2.1, q.2.2)
    else none
def fFor (fi : FI) (fg : FG) (fb : FS) : FS := fun L s => (fi L s).bind fun p => fLoop fg fb p.1.chk p.1.items L p.2
theorem drop_at {α : Type} {l : List α} {i : Nat} {d : α} (h : l[i]? = some d) : l.drop i = d :: l.drop (i + 1) := by
  obtain ⟨hi, e⟩ := List.getElem?_eq_some_iff.mp h
  rw [List.drop_eq_getElem_cons hi, e]
theorem rs_for {wi : TI} {g : TG} {tb : TS} {fi : FI} {fg : FG} {own : List Nat} {fb : FS} (ri : RI wi fi) (rg : RG g fg own) (rb : RS tb fb) : RS (tFor wi g tb) (fFor fi fg fb) := by
  intro L s fl L' s' σ H m E h S l k
  obtain ⟨⟨wk, s1⟩, e1, h⟩ := Option.bind_eq_some_iff.mp h
  refine ri L s wk s1 σ H m _ e1 S l fun J m1 H1 x1 S1 w1 => ?_
  refine ⟨fun i n σ2 H2 => n = wk.items.length - i ∧ i ≤ wk.items.length ∧ ∃ (L2 : Loc) (s2 : Sto) (m2 : List Addr), fLoop fg fb wk.chk (wk.items.drop i) L2 s2 = some (fl, L', s') ∧ SimO m2 H2 s2 ∧ LR m2 H2 L2 σ2 ∧ Ext m1 H1 m2 H2,
    ⟨wk.items.length, by simp, Nat.zero_le _, L, s1, m1, h, S1, l.ext x1, Ext.refl _ _⟩, ?_⟩
  rintro i n σ2 H2 ⟨rfl, hi, L2, s2, m2, h2, S2, l2, x2⟩
  by_cases hlt : i < wk.items.length
  · right
    have hd : wk.items[i]? = some wk.items[i] := List.getElem?_eq_getElem hlt
    generalize wk.items[i] = d at hd
    rw [drop_at hd, fLoop] at h2
    split at h2
    · rename_i hst
      obtain ⟨⟨L3, s3⟩, e3, h2⟩ := Option.bind_eq_some_iff.mp h2
      obtain ⟨⟨fl4, L4, s4⟩, e4, h2⟩ := Option.bind_eq_some_iff.mp h2
      obtain ⟨go, yl⟩ := w1.go i d m2 H2 s2 x2 S2 hst hd
      refine ⟨go, fun σ' H' => ∃ (L2 : Loc) (s2 : Sto) (m2 : List Addr), fLoop fg fb wk.chk (wk.items.drop (i + 1)) L2 s2 = some (fl, L', s') ∧ SimO m2 H' s2 ∧ LR m2 H' L2 σ' ∧ Ext m1 H1 m2 H',
        fun σ' H' z => ⟨wk.items.length - (i + 1), by omega, rfl, hlt, z⟩, fun x H3 y => ?_⟩
      obtain ⟨x3, S3, r3⟩ := yl x H3 y
      refine rg d L2 s2 L3 s3 x σ2 H3 m2 _ e3 S3 (l2.ext x3) r3 fun σ4 m4 H4 x4 S4 l4 _ _ => ?_
      have x24 := (x2.trans x3).trans x4
      refine rb L3 s3 fl4 L4 s4 σ4 H4 m4 _ e4 S4 l4 ?_
      cases fl4 with
      | nx => exact fun m5 H5 σ5 x5 S5 l5 => ⟨L4, s4, m5, h2, S5, l5, x24.trans x5⟩
      | ct => exact fun m5 H5 σ5 x5 S5 l5 => ⟨L4, s4, m5, h2, S5, l5, x24.trans x5⟩
      | bk =>
        cases h2
        exact fun m5 H5 σ5 x5 S5 l5 => k m5 H5 σ5 ((x1.trans x24).trans x5) S5 l5
      | rt d =>
        cases h2
        exact fun v m5 H5 x5 S5 r5 => k v m5 H5 ((x1.trans x24).trans x5) S5 r5
    · cases h2
  · left
    have e : i = wk.items.length := by omega
    subst e
    rw [List.drop_length, fLoop] at h2
    split at h2
    · rename_i hst
      cases h2
      exact ⟨w1.stop _ m2 H2 _ x2 S2 hst rfl, k m2 H2 σ2 (x1.trans x2) S2 l2⟩
    · cases h2
theorem ss_for {X : Cx} {tg iter : Expr} {body : List Stmt} {fi : FI} {fg : FG} {own : List Nat} {fb : FS} {pos : Pos} (hp : PassesOwn (model X.prog X.w) X.A X.env X.xe) (hc : X.calm = true) (hi : SI X tg iter fi) (hg : SG X tg fg own) (hb : SSs X body fb)
    (hs : ∀ x, foldedSetIterable iter X.env x = pure x := by intro _; rfl) : SS X (.For tg iter body [] pos) (fFor fi fg fb) := by
  obtain ⟨wi, pi, ri⟩ := hi
  obtain ⟨g, pg, rg⟩ := hg
  obtain ⟨tb, pb, rb⟩ := hb
  exact ⟨_, ps_for hp hc pi pg pb hs, rs_for ri rg rb⟩

/-! ## comprehensions -/
def wipeL (L : Loc) : List Nat → Loc
  | [] => L
  | v :: vs => (wipeL L vs).set v none
theorem wipe_mem {σ : L2.St} {i : Nat} : ∀ {vs : List Nat}, i ∈ vs → (wipe σ vs)[i]? = if i < σ.length then some none else none
  | [], h => by simp at h
  | v :: vs, h => by
    unfold wipe
    by_cases e : v = i
    · subst e
      rw [List.getElem?_set]
      simp [wipe_length]
    · rw [List.getElem?_set_ne e]
      exact wipe_mem ((List.mem_cons.mp h).resolve_left (Ne.symm e))
theorem wipe_not {σ : L2.St} {i : Nat} : ∀ {vs : List Nat}, i ∉ vs → (wipe σ vs)[i]? = σ[i]?
  | [], _ => rfl
  | v :: vs, h => by
    unfold wipe
    have hv : v ≠ i := fun e => h (by rw [e]; exact List.mem_cons_self)
    rw [List.getElem?_set_ne hv, wipe_not fun z => h (List.mem_cons_of_mem _ z)]
theorem wipeL_length (L : Loc) : ∀ vs : List Nat, (wipeL L vs).length = L.length
  | [] => rfl
  | v :: vs => by unfold wipeL; rw [List.length_set, wipeL_length L vs]
theorem wipeL_some {L : Loc} {i : Nat} {d : D} : ∀ {vs : List Nat}, (wipeL L vs)[i]? = some (some d) → L[i]? = some (some d) ∧ i ∉ vs
  | [], h => ⟨h, by simp⟩
  | v :: vs, h => by
    unfold wipeL at h
    by_cases e : v = i
    · subst e
      rw [List.getElem?_set] at h
      simp at h
    · rw [List.getElem?_set_ne e] at h
      obtain ⟨h1, h2⟩ := wipeL_some h
      exact ⟨h1, fun z => (List.mem_cons.mp z).elim (fun q => e q.symm) h2⟩
theorem LR.wipe {m : List Addr} {H : Hp} {L : Loc} {σ : L2.St} (l : LR m H L σ) (vs : List Nat) : LR m H (wipeL L vs) (L2.wipe σ vs) := by
  refine ⟨by rw [wipeL_length, wipe_length, l.len], fun i d e => ?_⟩
  obtain ⟨h1, h2⟩ := wipeL_some e
  rw [wipe_not h2]
  exact l.loc i d h1
theorem wipe_same {σ σ2 : L2.St} {vs own : List Nat} (hl : σ2.length = σ.length) (ho : ∀ i ∈ own, i ∈ vs) (h : ∀ i, i ∉ own → σ2[i]? = (wipe σ vs)[i]?) : wipe σ2 vs = wipe σ vs := by
  apply List.ext_getElem?
  intro i
  by_cases hi : i ∈ vs
  · rw [wipe_mem hi, wipe_mem hi, hl]
  · rw [wipe_not hi, wipe_not hi, h i fun z => hi (ho i z), wipe_not hi]
def fLcl (fg : FG) (ft : FT) (fe : FE) (c : List (Nat × O)) (k : Nat) (L : Loc) : List D → Sto → Option Sto
  | [], s => if stands c s = true then some s else none
  | d :: r, s => if stands c s = true then (fg d L s).bind fun p => (ft p.1 p.2).bind fun b =>
      if b.1 = true then (fe p.1 b.2).bind fun y => match y.2[k]? with
        | some (.lst acc) => if acc.length < sizeLine then fLcl fg ft fe c k L r (y.2.set k (.lst (acc ++ [y.1]))) else none
        | _ => none
      else fLcl fg ft fe c k L r b.2
    else none
def fLc (fi : FI) (fg : FG) (ft : FT) (fe : FE) (vs : List Nat) : FE := fun L s => (fi L s).bind fun p =>
  (fLcl fg ft fe p.1.chk p.2.length (wipeL L vs) p.1.items (p.2 ++ [.lst []])).bind fun s' => some (.ref p.2.length, s')
def fYes : FT := fun _ s => some (true, s)
theorem rt_yes : RT tYes fYes := fun L st b st' σ H m Q h S l k => by
  cases h
  exact k m H (Ext.refl _ _) S
theorem re_lc {wi : TI} {g : TG} {tt : TT} {te : TE} {fi : FI} {fg : FG} {ft : FT} {fe : FE} {own vs : List Nat} (ri : RI wi fi) (rg : RG g fg own) (rt : RT tt ft) (re : RE te fe) (ho : ∀ i ∈ own, i ∈ vs) : RE (tLc wi g tt te vs) (fLc fi fg ft fe vs) := by
  intro L s d s' σ H m Q h S l k
  obtain ⟨⟨wk, s1⟩, e1, h⟩ := Option.bind_eq_some_iff.mp h
  obtain ⟨s9, e9, h⟩ := Option.bind_eq_some_iff.mp h
  cases h
  refine ri L s wk s1 σ H m _ e1 S l fun J m1 H1 x1 S1 w1 A hA => ?_
  have S2 : SimO (m1 ++ [A]) (upd H1 A (.lst [])) (s1 ++ [.lst []]) := S1.laid hA ⟨[], upd_same, rfl⟩
  have x2 : Ext m1 H1 (m1 ++ [A]) (upd H1 A (.lst [])) := ext_new hA
  refine ⟨fun i n H2 => n = wk.items.length - i ∧ i ≤ wk.items.length ∧ ∃ (s2 : Sto) (m2 : List Addr), fLcl fg ft fe wk.chk s1.length (wipeL L vs) (wk.items.drop i) s2 = some s' ∧ SimO m2 H2 s2 ∧ Ext (m1 ++ [A]) (upd H1 A (.lst [])) m2 H2,
    ⟨wk.items.length, by simp, Nat.zero_le _, _, _, e9, S2, Ext.refl _ _⟩, ?_⟩
  rintro i n H3 ⟨rfl, hi, s3, m3, h3, S3, x3⟩
  have hk : ∀ {m' : List Addr} {H' : Hp}, Ext (m1 ++ [A]) (upd H1 A (.lst [])) m' H' → m'[s1.length]? = some A := fun x => x.at (by rw [← S1.len, List.getElem?_concat_length])
  by_cases hlt : i < wk.items.length
  · right
    have hd : wk.items[i]? = some wk.items[i] := List.getElem?_eq_getElem hlt
    generalize wk.items[i] = d at hd
    rw [drop_at hd, fLcl] at h3
    split at h3
    · rename_i hst
      obtain ⟨⟨L4, s4⟩, e4, h3⟩ := Option.bind_eq_some_iff.mp h3
      obtain ⟨⟨b, s5⟩, e5, h3⟩ := Option.bind_eq_some_iff.mp h3
      obtain ⟨go, yl⟩ := w1.go i d m3 H3 s3 (x2.trans x3) S3 hst hd
      refine ⟨go, fun H' => ∃ (s2 : Sto) (m2 : List Addr), fLcl fg ft fe wk.chk s1.length (wipeL L vs) (wk.items.drop (i + 1)) s2 = some s' ∧ SimO m2 H' s2 ∧ Ext (m1 ++ [A]) (upd H1 A (.lst [])) m2 H',
        fun H' z => ⟨wk.items.length - (i + 1), by omega, rfl, hlt, z⟩, fun x H4 y => ?_⟩
      obtain ⟨x4, S4, r4⟩ := yl x H4 y
      have lw : LR m3 H4 (wipeL L vs) (wipe σ vs) := (l.wipe vs).ext (((x1.trans x2).trans x3).trans x4)
      refine rg d _ s3 L4 s4 x _ H4 m3 _ e4 S4 lw r4 fun σ5 m5 H5 x5 S5 l5 z5 w5 => ?_
      refine ⟨wipe_same (z5.trans (wipe_length σ vs)) ho w5, ?_⟩
      refine rt L4 s4 b s5 σ5 H5 m5 _ e5 S5 l5 fun m6 H6 x6 S6 => ?_
      have x36 := ((x3.trans x4).trans x5).trans x6
      cases b with
      | false =>
        rw [if_neg Bool.false_ne_true] at h3 ⊢
        exact ⟨s5, m6, h3, S6, x36⟩
      | true =>
        rw [if_pos rfl] at h3 ⊢
        obtain ⟨⟨y7, s7⟩, e7, h3⟩ := Option.bind_eq_some_iff.mp h3
        refine re L4 s5 y7 s7 σ5 H6 m6 _ e7 S6 (l5.ext x6) fun v7 m7 H7 x7 S7 r7 => ?_
        have x37 := x36.trans x7
        simp only at h3
        split at h3
        · rename_i acc hacc
          split at h3
          · rename_i hz
            have hA7 := hk x37
            obtain ⟨vs7, hv7, rv7⟩ := S7.obj _ A _ hA7 hacc
            have xw : Ext m7 H7 m7 (upd H7 A (.lst (vs7 ++ [v7]))) := ext_write hv7 (fun _ z => nomatch z)
            refine ⟨vs7, hv7, by rw [← rv7.len]; exact hz, _, m7, h3, ?_, x37.trans xw⟩
            exact S7.write hA7 hv7 (fun _ z => nomatch z) ⟨_, upd_same, VRs.snoc (rv7.ext xw) (r7.ext xw)⟩
          · cases h3
        · cases h3
    · cases h3
  · left
    have e : i = wk.items.length := by omega
    subst e
    rw [List.drop_length, fLcl] at h3
    split at h3
    · rename_i hst
      cases h3
      exact ⟨w1.stop _ m3 H3 _ (x2.trans x3) S3 hst rfl, k _ m3 H3 ((x1.trans x2).trans x3) S3 ⟨A, rfl, hk x3⟩⟩
    · cases h3
end FL

namespace FL
open PySem PySem.Spec PyProof.Rows L2
section
variable {X : Cx}
/-! the comprehension's rules -/
structure SB (X : Cx) (scope : Scope) (tg : Expr) (ifs : List Expr) (elt : Expr) (fg : FG) (ft : FT) (fe : FE) (own : List Nat) : Prop where
  g : ∃ t, RG t fg own ∧ ∀ (s : Shared) (H : Hp) (C : Addr) (cl : List (Str × Addr)) (fp : List Addr), PG (X.blk s H scope (compEnvC scope cl C X.env) fp) tg t
  t : ∃ t, RT t ft ∧ ∀ (s : Shared) (H : Hp) (C : Addr) (cl : List (Str × Addr)) (fp : List Addr), PTs (X.blk s H scope (compEnvC scope cl C X.env) fp) ifs t
  e : ∃ t, RE t fe ∧ ∀ (s : Shared) (H : Hp) (C : Addr) (cl : List (Str × Addr)) (fp : List Addr), PE (X.blk s H scope (compEnvC scope cl C X.env) fp) elt t
theorem SG.tg {tg : Expr} {f : FG} {own : List Nat} (h : SG X tg f own) : PG X tg (fun v σ H Q => ∃ (d : D) (L : Loc) (st : Sto) (L' : Loc) (st' : Sto) (m : List Addr), f d L st = some (L', st') ∧ SimO m H st ∧ LR m H L σ ∧ VR m H d v ∧
    ∀ σ' m' H', Ext m H m' H' → SimO m' H' st' → LR m' H' L' σ' → σ'.length = σ.length → (∀ i, i ∉ own → σ'[i]? = σ[i]?) → Q σ' H') := by
  obtain ⟨t, p, r⟩ := h
  exact ⟨fun pins s σ H v u Q I rv ⟨d, L, st, L', st', m, h1, S, l, rd, k⟩ => p.run pins s σ H v u Q I rv (r d L st L' st' v σ H m Q h1 S l rd k)⟩
theorem SB.mk' {scope : Scope} {tg : Expr} {ifs : List Expr} {elt : Expr} {fg : FG} {ft : FT} {fe : FE} {own : List Nat}
    (hg : ∀ (s : Shared) (H : Hp) (C : Addr) (cl : List (Str × Addr)) (fp : List Addr), SG (X.blk s H scope (compEnvC scope cl C X.env) fp) tg fg own)
    (he : ∀ (s : Shared) (H : Hp) (C : Addr) (cl : List (Str × Addr)) (fp : List Addr), SE (X.blk s H scope (compEnvC scope cl C X.env) fp) elt fe)
    (ht : ∃ t, RT t ft ∧ ∀ (s : Shared) (H : Hp) (C : Addr) (cl : List (Str × Addr)) (fp : List Addr), PTs (X.blk s H scope (compEnvC scope cl C X.env) fp) ifs t) : SB X scope tg ifs elt fg ft fe own :=
  ⟨⟨_, fun d L st L' st' v σ H m Q h S l r k => ⟨d, L, st, L', st', m, h, S, l, r, k⟩, fun s H C cl fp => (hg s H C cl fp).tg⟩, ht, ⟨_, re_tf fe, fun s H C cl fp => (he s H C cl fp).pe⟩⟩
theorem SB.no {scope : Scope} {tg elt : Expr} {fg : FG} {fe : FE} {own : List Nat}
    (hg : ∀ (s : Shared) (H : Hp) (C : Addr) (cl : List (Str × Addr)) (fp : List Addr), SG (X.blk s H scope (compEnvC scope cl C X.env) fp) tg fg own)
    (he : ∀ (s : Shared) (H : Hp) (C : Addr) (cl : List (Str × Addr)) (fp : List Addr), SE (X.blk s H scope (compEnvC scope cl C X.env) fp) elt fe) : SB X scope tg [] elt fg fYes fe own :=
  .mk' hg he ⟨_, rt_yes, fun _ _ _ _ _ => pts_nil⟩
theorem SB.one {scope : Scope} {tg elt c : Expr} {fg : FG} {ft : FT} {fe : FE} {own : List Nat}
    (hg : ∀ (s : Shared) (H : Hp) (C : Addr) (cl : List (Str × Addr)) (fp : List Addr), SG (X.blk s H scope (compEnvC scope cl C X.env) fp) tg fg own)
    (he : ∀ (s : Shared) (H : Hp) (C : Addr) (cl : List (Str × Addr)) (fp : List Addr), SE (X.blk s H scope (compEnvC scope cl C X.env) fp) elt fe)
    (ht : ∀ (s : Shared) (H : Hp) (C : Addr) (cl : List (Str × Addr)) (fp : List Addr), ST (X.blk s H scope (compEnvC scope cl C X.env) fp) c ft) : SB X scope tg [c] elt fg ft fe own :=
  .mk' hg he ⟨_, rt_tft ft, fun s H C cl fp => pts_one (ht s H C cl fp).pt⟩
theorem se_lc {elt tg iter : Expr} {ifs : List Expr} {scope : Scope} {ow : List (Str × Nat)} {pos : Pos} {fi : FI} {fg : FG} {ft : FT} {fe : FE} {own : List Nat} (hc : X.calm = true) (hN : X.N.Nodup) (hi : SI X tg iter fi) (ok : BlkOk X.N X.env.scope scope ow)
    (hb : SB X scope tg ifs elt fg ft fe own) (ho : ∀ i ∈ own, i ∈ ow.map (·.2)) (hs : ∀ x, foldedSetIterable iter X.env x = pure x := by intro _; rfl) : SE X (.ListComp elt [⟨tg, iter, ifs, 0⟩] scope pos) (fLc fi fg ft fe (ow.map (·.2))) := by
  obtain ⟨wi, pi, ri⟩ := hi
  obtain ⟨⟨g, rg, pg⟩, ⟨t, rt, pt⟩, ⟨e, re, pe⟩⟩ := hb
  exact ⟨_, pe_lc hc hN pi ok pg pt pe hs, re_lc ri rg rt re ho⟩
theorem ss_setLc {i : Nat} {y : Str} {py : Pos} {elt tg iter : Expr} {ifs : List Expr} {scope : Scope} {ow : List (Str × Nat)} {pos spos : Pos} {fi : FI} {fg : FG} {ft : FT} {fe : FE} {own : List Nat} (hc : X.calm = true) (hN : X.N.Nodup) (hy : X.N[i]? = some y) (hyl : X.env.scope.names.lookup y = some .local)
    (hsw : swapsWith (.ListComp elt [⟨tg, iter, ifs, 0⟩] scope pos) (some (.Name y py)) spos.line X.env = pure true) (hi : SI X tg iter fi) (ok : BlkOk X.N X.env.scope scope ow)
    (hb : SB X scope tg ifs elt fg ft fe own) (ho : ∀ i ∈ own, i ∈ ow.map (·.2)) (hs : ∀ x, foldedSetIterable iter X.env x = pure x := by intro _; rfl) :
    SS X (.Assign [.Name y py] (.ListComp elt [⟨tg, iter, ifs, 0⟩] scope pos) spos) (fAs (fLc fi fg ft fe (ow.map (·.2))) (fNm i)) := by
  obtain ⟨wi, pi, ri⟩ := hi
  obtain ⟨⟨g, rg, pg⟩, ⟨t, rt, pt⟩, ⟨e, re, pe⟩⟩ := hb
  refine ⟨_, ps_setLc hc hN hy hyl hsw pi ok pg pt pe hs, rs_as (own := [i]) (re_lc ri rg rt re ho) fun d L st L' st' v σ H m Q h S l r k => ?_⟩
  cases h
  refine k _ m H (Ext.refl _ _) S (l.set i r) (by simp) fun j hj => ?_
  rw [List.getElem?_set_ne]
  simpa [eq_comm] using hj
end

/-! ## defs -/
def startL (n : Nat) (ds : List D) : Loc := ds.map some ++ List.replicate (n - ds.length) none
/-- a def's function: its body from the arguments; n: how many slots -/
def run (n np : Nat) (b : FS) : FF := fun ds st => if ds.length = np then (b (startL n ds) st).bind fun p => match p.1 with
  | .rt d => some (gc st d p.2.2)
  | .nx => some (gc st .non p.2.2)
  | _ => none
  else none
structure FnG (P : Program) (w : World) (K : PySem.W.Frag) (mg : Str → Option Value) (base : Heap) (k : Nat) (f : Addr) (fd : FuncData) (ps : List Str) (F : FF) : Prop where
  run : ∀ (A : Around) (outer : List Env) (s : Shared) (H : Hp) (args : Args) (us : List Value) (vs : List V) (m : List Addr) (ds : List D) (st : Sto) (d : D) (st' : Sto) (Q : VK), Room k A → A.guards = some [] → Env0 P w K mg base A outer s H →
    BindsTo s fd args (ps.zip us) → Vals vs us → ds.length = ps.length → F ds st = some (d, st') → SimO m H st → VRs m H ds vs → (∀ v m' H', Ext m H m' H' → SimO m' H' st' → VR m' H' d v → Q v H') →
    codeAny (model P w) A (.call (.ref f) args) (CR CX0 outer P w H s Q E0) s
theorem FnG.mono {P : Program} {w : World} {K : PySem.W.Frag} {mg : Str → Option Value} {base : Heap} {j k : Nat} {f : Addr} {fd : FuncData} {ps : List Str} {F : FF} (h : FnG P w K mg base j f fd ps F) (hk : j ≤ k) : FnG P w K mg base k f fd ps F :=
  ⟨fun A outer s H args us vs m ds st d st' Q hr => h.run A outer s H args us vs m ds st d st' Q (hr.mono hk)⟩
def fCall (F : FF) (g : FA) : FE := fun L s => (g L s).bind fun q => F q.1 q.2
section
variable {X : Cx} {k : Nat} {f : Addr} {fd : FuncData} {ps : List Str} {F : FF} {x : Str} {p pos : Pos} {e : Expr} {es : List Expr} {g : FA}
/-- the reading of a call by a def's function -/
def tCallF (F : FF) (np : Nat) (t : TA) : TE := fun σ H Q => t σ H fun vs H1 => ∃ (m : List Addr) (ds : List D) (st : Sto) (d : D) (st' : Sto), ds.length = np ∧ F ds st = some (d, st') ∧ SimO m H1 st ∧ VRs m H1 ds vs ∧
  ∀ v m' H', Ext m H1 m' H' → SimO m' H' st' → VR m' H' d v → Q v H'
theorem se_call (h : FnG X.prog X.w X.K X.mg X.base k f fd ps F) (hr : Room k X.A) (hgu : X.A.guards = some []) (hg : Gl X x) (hm : X.mg x = some (.ref f)) (hk : PySem.W.keepIn X.K (.ref f) = true) (hb : Binds X.K fd ps []) (hx : ∀ e s, X.xe e s → True)
    (hn : ∀ ds st r, F ds st = some r → ds.length = ps.length) (ha : SA X (e :: es) g) (hdb : (x == ("__debug__" : Str)) = false := by decide) (he : starEach (e :: es) X.env = (false, eval e X.env) :: starEach es X.env := by rfl) (hpl : (backTo pos (starEach es X.env)).any (·.1) = false := by rfl) :
    SE X (.Call (.Name x p) (e :: es) [] pos) (fCall F g) := by
  obtain ⟨t, pa, ra⟩ := ha
  refine ⟨tCallF F ps.length t, ⟨fun pins s σ H Q I hw => ?_⟩, fun L s d s' σ H m Q hf S l kk => ?_⟩
  · refine wpAny_Call_Name_kw (ld_glob I hg hm ?_ hdb)
    refine PySem.W.callWith_K (h₀ := X.base) I.ok.mod.kin hk (thn (pa.run pos pins s σ H _ I hw) fun us s1 ⟨vs, H1, I1, r1, q1⟩ => ⟨I1.kIn, ?_⟩) he hpl
    obtain ⟨m, ds, st, d, st', hl, hF, S, rv, kk⟩ := q1
    have hlu : (us ++ []).length = ps.length := by
      rw [List.append_nil, ← r1.length, ← rv.len]
      exact hl
    have bnd := hb s1 us I1.kIn hlu
    rw [List.append_nil] at bnd
    have run := h.run X.A X.stack s1 H1 ⟨us, []⟩ us vs m ds st d st' Q hr hgu I1.env0 bnd r1 hl hF S rv kk
    refine wpAny_call (codeAny_mono run fun r s2 hq => ?_)
    match r, hq with
    | .ok (.ret u), hq => exact I1.after hq
    | .ok .next, hq => exact hq.elim
    | .ok .brk, hq => exact hq.elim
    | .ok .cont, hq => exact hq.elim
    | .error _, hq => exact hq.elim
  · obtain ⟨⟨ds, s1⟩, e1, hf⟩ := Option.bind_eq_some_iff.mp hf
    exact ra L s ds s1 σ H m _ e1 S l fun vs m1 H1 x1 S1 r1 => ⟨m1, ds, s1, d, s', hn ds s1 _ hf, hf, S1, r1, fun v m2 H2 x2 => kk v m2 H2 (x1.trans x2)⟩
end
theorem run_len {n np : Nat} {b : FS} {ds : List D} {st : Sto} {r : D × Sto} (h : run n np b ds st = some r) : ds.length = np := by
  unfold run at h
  split at h
  · assumption
  · cases h
theorem VRs.at {m : List Addr} {H : Hp} : ∀ {ds : List D} {vs : List V}, VRs m H ds vs → ∀ {i : Nat} {d : D}, ds[i]? = some d → ∃ v, vs[i]? = some v ∧ VR m H d v
  | [], _, _, i, d, e => by simp at e
  | c :: ds, _, h, i, d, e => by
    obtain ⟨v, r, ev, h1, h2⟩ := h
    rw [ev]
    cases i with
    | zero =>
      simp at e
      rw [← e]
      exact ⟨v, by simp, h1⟩
    | succ i =>
      obtain ⟨w, hw, rw'⟩ := VRs.at h2 (i := i) (d := d) (by simpa using e)
      exact ⟨w, by simpa using hw, rw'⟩
theorem start_LR {m : List Addr} {H : Hp} {N : List Str} {ds : List D} {vs : List V} (r : VRs m H ds vs) : LR m H (startL N.length ds) (start N vs) := by
  have hl := r.len
  refine ⟨by simp [startL, L2.start, hl], fun i d e => ?_⟩
  unfold startL at e
  unfold L2.start
  by_cases hi : i < ds.length
  · rw [List.getElem?_append_left (by simpa using hi), List.getElem?_map] at e
    rw [List.getElem?_append_left (by simpa [← hl] using hi), List.getElem?_map]
    have hd : ds[i]? = some d := by
      cases z : ds[i]? with
      | none => rw [z] at e; cases e
      | some c => rw [z] at e; cases e; rfl
    obtain ⟨v, hv, rv⟩ := VRs.at r hd
    exact ⟨v, by rw [hv]; rfl, rv⟩
  · rw [List.getElem?_append_right (by simpa using hi), List.getElem?_replicate] at e
    split at e <;> cases e
/-- the rule for a def -/
theorem fnG {P : Program} {w : World} {K : PySem.W.Frag} {mg : Str → Option Value} {base : Heap} {qual x : Str} {st : Stmt} {f : Addr} {fd : FuncData} {N ps : List Str} {k : Nat} {B : FS} (Fn : Fun K x qual st f fd) (S : FnScope N ps (defScope st))
    (hB : ∀ (cdv : Value) (A : Around) (outer : List Env) (s : Shared) (H : Hp), Room k (A.deeper (envOfC qual (defScope st) s.heap.objs.size f cdv)) → A.guards = some [] → SSs (cxOf CX0 P w K mg base N qual (defScope st) f cdv A outer s H E0).nox (defBody st) B) :
    FnG P w K mg base (k + 1) f fd ps (run N.length ps.length B) := by
  obtain ⟨oc, od, kV, doc, pm, an, cdv, ct, osl, rfl, lk, hcd⟩ := Fn.ex
  constructor
  intro A outer s H args us vs m ds sto d sto' Q hr hgu e0 hb r hl hF SO rv kk
  have lvs : vs.length = ps.length := by rw [← rv.len]; exact hl
  have inK := e0.mod.kin.keeps fun b o e => (e0.bs b o e).1
  have free := e0.mod.nolimit.keeps fun b o e => (e0.bs b o e).1
  have kinds : ∀ y ∈ ps.zip us, (defScope st).names.lookup y.1 = some .local ∨ ((defScope st).names.lookup y.1 = some .cell ∧ ((cellsFrom (s.heap.objs.size + 1) (defScope st).names []).lookup y.1).isSome = true) := by
    intro y hy
    obtain ⟨n, v⟩ := y
    exact (S.par n (List.of_mem_zip hy).1).imp id fun q => ⟨q, PySem.W.cellsFrom_some _ _ _ (.inl q)⟩
  have room := hr.deeper (envOfC qual (defScope st) s.heap.objs.size f cdv)
  obtain ⟨t, body, reading⟩ := hB cdv A outer s H room hgu
  -- what the function says of the body's end
  have key : ∃ (fl : Fl) (L9 : Loc) (s9 : Sto), B (startL N.length ds) sto = some (fl, L9, s9) ∧ ((∃ d9, fl = .rt d9 ∧ gc sto d9 s9 = (d, sto')) ∨ (fl = .nx ∧ gc sto .non s9 = (d, sto'))) := by
    unfold FL.run at hF
    rw [if_pos hl] at hF
    obtain ⟨⟨fl, L9, s9⟩, eB, hF⟩ := Option.bind_eq_some_iff.mp hF
    refine ⟨fl, L9, s9, eB, ?_⟩
    cases fl with
    | rt d9 => exact .inl ⟨d9, rfl, Option.some.inj hF⟩
    | nx => exact .inr ⟨rfl, Option.some.inj hF⟩
    | bk => cases hF
    | ct => cases hF
  obtain ⟨fl, L9, s9, eB, hfl⟩ := key
  refine codeAny_call_function hr.depth (inK _ _ lk) rfl S.co S.gen rfl (PySem.W.codeRec_of inK hcd) (hb _ _ _ _ ?_)
  refine wpAny_newFunctionEnv_cells S.kind kinds fun en hen s1 ic => ?_
  subst hen
  refine ⟨free.keeps ic.toInCall.keep, codeAny_func ?_⟩
  have I0 : Inv (cxOf CX0 P w K mg base N qual (defScope st) f cdv A outer s H E0) [] (start N vs) H s1 := inv_start S hr.hd e0 lvs r ic
  have wish : EO { nx := fun _ H' => Q .non H', rt := Q } m H fl L9 s9 := by
    rcases hfl with ⟨d9, rfl, eg⟩ | ⟨rfl, eg⟩
    · exact gc_ok SO eg kk
    · intro m' H' σ' x' S' _
      exact gc_ok SO eg kk .non m' H' x' S' (by simp [VR])
  have go := body.nox.run [] s1 (start N vs) H { nx := fun _ H' => Q .non H', rt := Q } I0 (reading _ _ _ _ _ _ _ m _ eB SO (start_LR rv) wish)
  have over : ∀ {σ' : L2.St} {H' : Hp} {v : V} {u : Value} {s2 : Shared}, Inv (cxOf CX0 P w K mg base N qual (defScope st) f cdv A outer s H E0) [] σ' H' s2 → RelV v u → Q v H' → CR CX0 outer P w H s Q E0 (.ok (.ret u)) s2 := by
    intro σ' H' v u s2 J ru q
    exact ⟨v, H', J.os, J.bare, J.base, J.hok, ru, q⟩
  refine wpAny_mono go (fun fl2 s2 h2 => ?_) fun _ _ h2 => h2
  match fl2, h2 with
  | .next, h2 =>
    obtain ⟨σ', H', J, q⟩ := h2
    exact over (v := V.non) (u := Value.none) J rfl q
  | .ret u, h2 =>
    obtain ⟨v, σ', H', J, ru, q⟩ := h2
    exact over J ru q
  | .brk, h2 => exact (h2.elim fun _ z => z.elim fun _ q => q.2).elim
  | .cont, h2 => exact (h2.elim fun _ z => z.elim fun _ q => q.2).elim
end FL

set_option Elab.async false
set_option linter.all false
set_option maxRecDepth 100000
set_option autoImplicit false
namespace FL
open PySem PySem.Spec PyProof.Rows L2

/-! ## data without numbers of the store, as the library's data -/
mutual
def D.P : D → PyData
  | .bl b => .bool b
  | .int i => .int i
  | .str x => .str x
  | .tup ds => .tuple (D.Ps ds)
  | .ft ds => .tuple (D.Ps ds)
  | _ => .none
def D.Ps : List D → List PyData
  | [] => []
  | d :: ds => D.P d :: D.Ps ds
end
mutual
def D.pure : D → Bool
  | .tup ds => D.pures ds
  | .ft ds => D.pures ds
  | .ref _ => false
  | .ty _ => false
  | _ => true
def D.pures : List D → Bool
  | [] => true
  | d :: ds => D.pure d && D.pures ds
end
mutual
def D.dep : D → Nat
  | .tup ds => D.deps ds + 1
  | .ft ds => D.deps ds + 1
  | _ => 0
def D.deps : List D → Nat
  | [] => 0
  | d :: ds => max (D.dep d) (D.deps ds)
end
mutual
theorem D.plainP : ∀ d : D, (D.P d).plain = true
  | .non => rfl
  | .bl _ => rfl
  | .int _ => rfl
  | .str _ => rfl
  | .ref _ => rfl
  | .ty _ => rfl
  | .tup ds => by simp only [D.P, PyData.plain]; exact D.plainPs ds
  | .ft ds => by simp only [D.P, PyData.plain]; exact D.plainPs ds
theorem D.plainPs : ∀ ds : List D, PyData.plainAll (D.Ps ds) = true
  | [] => rfl
  | d :: ds => by simp only [D.Ps, PyData.plainAll, D.plainP d, D.plainPs ds, Bool.and_self]
end
mutual
theorem D.depP : ∀ d : D, (D.P d).depth = d.dep
  | .non => by simp only [D.P, PyData.depth, D.dep]
  | .bl _ => by simp only [D.P, PyData.depth, D.dep]
  | .int _ => by simp only [D.P, PyData.depth, D.dep]
  | .str _ => by simp only [D.P, PyData.depth, D.dep]
  | .ref _ => by simp only [D.P, PyData.depth, D.dep]
  | .ty _ => by simp only [D.P, PyData.depth, D.dep]
  | .tup ds => by simp only [D.P, PyData.depth, D.dep, D.depPs ds]
  | .ft ds => by simp only [D.P, PyData.depth, D.dep, D.depPs ds]
theorem D.depPs : ∀ ds : List D, PyData.depthAll (D.Ps ds) = D.deps ds
  | [] => by simp only [D.Ps, PyData.depthAll, D.deps]
  | d :: ds => by simp only [D.Ps, PyData.depthAll, D.deps, D.depP d, D.depPs ds]
end
mutual
theorem VR.dp {K : PySem.W.Frag} {m : List Addr} {H : Hp} : ∀ {d : D} {v : V}, d.pure = true → VR m H d v → Dp K H v d.P
  | .non, v, _, h => by rw [show v = _ from h]; exact .non
  | .bl b, v, _, h => by rw [show v = _ from h]; exact .bl b
  | .int i, v, _, h => by rw [show v = _ from h]; exact .int i
  | .str x, v, _, h => by rw [show v = _ from h]; exact .str x
  | .ref _, v, p, h => by simp [D.pure] at p
  | .ty _, v, p, h => by simp [D.pure] at p
  | .tup ds, v, p, h => by
    obtain ⟨a, vs, e, ha, hs⟩ := h
    rw [e]
    simp only [D.P]
    exact .tup (SqT.of ha) (VRs.dp (by simpa [D.pure] using p) hs)
  | .ft ds, v, p, h => by
    obtain ⟨a, o, vs, e, ha, _, hs⟩ := h
    rw [e]
    simp only [D.P]
    exact .tup (.inl (.inr ⟨o, ha⟩)) (VRs.dp (by simpa [D.pure] using p) hs)
theorem VRs.dp {K : PySem.W.Frag} {m : List Addr} {H : Hp} : ∀ {ds : List D} {vs : List V}, D.pures ds = true → VRs m H ds vs → DpAll K H vs (D.Ps ds)
  | [], vs, _, h => by rw [show vs = _ from h]; exact .nil
  | d :: ds, vs, p, h => by
    obtain ⟨v, r, e, h1, h2⟩ := h
    rw [e]
    simp only [D.pures, Bool.and_eq_true] at p
    exact .cons (VR.dp p.1 h1) (VRs.dp p.2 h2)
end
/-- .. or a list of such -/
def PL (st : Sto) : D → Option (PyData × Nat)
  | .ref n => match st[n]? with
    | some (.lst ds) => if D.pures ds = true then some (.list (D.Ps ds), D.deps ds + 1) else none
    | some (.rol ds) => if D.pures ds = true then some (.list (D.Ps ds), D.deps ds + 1) else none
    | _ => none
  | d => if d.pure = true then some (d.P, d.dep) else none
theorem SimO.at {m : List Addr} {H : Hp} {st : Sto} (S : SimO m H st) {n : Nat} {p : Addr} {o : O} (h : m[n]? = some p) (e : st[n]? = some o) : OR m H o p := S.obj n p o h e
theorem PL_ok {K : PySem.W.Frag} {m : List Addr} {H : Hp} {st : Sto} (S : SimO m H st) {d : D} {v : V} {x : PyData} {k : Nat} (h : PL st d = some (x, k)) (r : VR m H d v) : Dp K H v x ∧ x.plain = true ∧ x.depth = k := by
  unfold PL at h
  cases d with
  | ref n =>
    obtain ⟨p, ev, hp⟩ := r
    subst ev
    simp only at h
    split at h
    · rename_i ds e
      split at h
      · rename_i hs
        cases h
        obtain ⟨vs, hv, rv⟩ := S.at hp e
        exact ⟨.lst (SqL.of hv) (VRs.dp hs rv), by simp only [PyData.plain]; exact D.plainPs ds, by simp only [PyData.depth, D.depPs]⟩
      · cases h
    · rename_i ds e
      split at h
      · rename_i hs
        cases h
        obtain ⟨vs, hv, rv⟩ := S.at hp e
        exact ⟨.lst (.inl hv) (VRs.dp hs rv), by simp only [PyData.plain]; exact D.plainPs ds, by simp only [PyData.depth, D.depPs]⟩
      · cases h
    · cases h
  | _ =>
    simp only at h
    split at h
    · rename_i hp
      cases h
      exact ⟨VR.dp hp r, D.plainP _, D.depP _⟩
    · cases h

/-! ## operators -/
theorem o2_I0 {f : Int → Int → Int} : O2 (rI0 fun i j => .int (f i j)) (fun x y s => match x, y with | .int i, .int j => some (.int (f i j), s) | _, _ => none) := by
  intro x y st d st' H m v w Q h S rx ry k
  simp only at h
  split at h
  · cases h
    exact ⟨_, _, rx, ry, k _ m H (Ext.refl _ _) S rfl⟩
  · cases h
theorem o2_I {C : Int → Int → Prop} {f : Int → Int → Int} {c : Int → Int → Bool} (hc : ∀ i j, c i j = true → C i j) : O2 (rI C fun i j => .int (f i j)) (fun x y s => match x, y with | .int i, .int j => if c i j = true then some (.int (f i j), s) else none | _, _ => none) := by
  intro x y st d st' H m v w Q h S rx ry k
  simp only at h
  split at h
  · split at h
    · rename_i hcc
      cases h
      exact ⟨_, _, rx, ry, hc _ _ hcc, k _ m H (Ext.refl _ _) S rfl⟩
    · cases h
  · cases h
theorem o2_B0 {f : Int → Int → Bool} : O2 (rI0 fun i j => .bl (f i j)) (fun x y s => match x, y with | .int i, .int j => some (.bl (f i j), s) | _, _ => none) := by
  intro x y st d st' H m v w Q h S rx ry k
  simp only at h
  split at h
  · cases h
    exact ⟨_, _, rx, ry, k _ m H (Ext.refl _ _) S rfl⟩
  · cases h
section
variable {X : Cx} {a b : Expr} {fa fb : FE} {pos : Pos}
/-- + -/
def addD : F2 := fun x y s => match x, y with
  | .int i, .int j => some (.int (i + j), s)
  | .str i, .str j => if i.length + j.length ≤ sizeLine then some (.str (i ++ j), s) else none
  | .tup i, .tup j => if i.length + j.length ≤ sizeLine then some (.tup (i ++ j), s) else none
  | _, _ => none
def rAddD (K : PySem.W.Frag) : R2 := fun x y H Q => rI0 (fun i j => .int (i + j)) x y H Q ∨ (∃ i j, x = .str i ∧ y = .str j ∧ i.length + j.length ≤ sizeLine ∧ Q (.str (i ++ j)) H) ∨ rCatA K x y H Q
theorem VRs.app {m : List Addr} {H : Hp} : ∀ {ds es : List D} {vs ws : List V}, VRs m H ds vs → VRs m H es ws → VRs m H (ds ++ es) (vs ++ ws)
  | [], _, _, _, h, r => by
    rw [show _ = [] from h]
    exact r
  | e :: ds, _, _, _, h, r => by
    obtain ⟨w, t, ew, h1, h2⟩ := h
    rw [ew]
    exact ⟨w, _, rfl, h1, VRs.app h2 r⟩
theorem VRs.nil_iff {m : List Addr} {H : Hp} {ds : List D} {vs : List V} (h : VRs m H ds vs) : vs = [] ↔ ds = [] := by
  have := h.len
  cases ds <;> cases vs <;> simp_all
theorem o2_add (K : PySem.W.Frag) : O2 (rAddD K) addD := by
  intro x y st d st' H m v w Q h S rx ry k
  unfold addD at h
  split at h
  · cases h
    exact .inl ⟨_, _, rx, ry, k _ m H (Ext.refl _ _) S rfl⟩
  · split at h
    · rename_i hz
      cases h
      exact .inr (.inl ⟨_, _, rx, ry, hz, k _ m H (Ext.refl _ _) S rfl⟩)
    · cases h
  · split at h
    · rename_i i j hz
      cases h
      obtain ⟨a, vs, ev, ha, ra⟩ := rx
      obtain ⟨b, ws, ew, hb, rb⟩ := ry
      refine .inr (.inr ⟨a, b, vs, ws, ev, ew, SqT.of ha, SqT.of hb, by rw [← ra.len, ← rb.len]; exact hz, fun e => ?_, fun _ e => ?_, fun _ _ p hp => ?_⟩)
      · have := ra.nil_iff.mp e
        subst this
        exact k _ m H (Ext.refl _ _) S ⟨b, ws, rfl, hb, rb⟩
      · have := rb.nil_iff.mp e
        subst this
        exact k _ m H (Ext.refl _ _) S ⟨a, vs, rfl, ha, by rw [List.append_nil]; exact ra⟩
      · exact k _ m _ (ext_tup hp) (S.laidT hp) ⟨p, _, rfl, upd_same, (ra.app rb).ext (ext_tup hp)⟩
    · cases h
  · cases h
theorem se_add (ha : SE X a fa) (hb : SE X b fb) : SE X (.BinOp a .Add b pos) (fE2 addD fa fb) := se_op (op_add.or (op_add_str.or op_catA)) (o2_add X.K) ha hb
/-- - -/
def subD : F2 := fun x y s => match x, y with | .int i, .int j => some (.int (i - j), s) | _, _ => none
theorem se_sub (ha : SE X a fa) (hb : SE X b fb) : SE X (.BinOp a .Sub b pos) (fE2 subD fa fb) := se_op op_sub o2_I0 ha hb
end
theorem tuple_mulOne (l : Addr) (items : Array Value) (n : Nat) (dd : Option Addr) (sl : Array (Option Value)) (u : Tok) :
    Meets (Builtin.«tuple.__mul__» ⟨[.ref l, .int 1 u], []⟩) (fun _ R s => s.heap.get? l = some { cls := .type "tuple", dict := dd, data := .seq items n, slots := sl } ∧ R (.ok (.ret (Value.ref l))) s) :=
  .of_wp fun prog w A R s h => by
    obtain ⟨hp, g, d, tk, os⟩ := s
    obtain ⟨hl, h⟩ := h
    have f1 := AutoSeq1.idx_int
    have c1 : (items.isEmpty || (1 : Int) == 1) = true := by simp
    wp_walk using AutoSeq1.wpAny_loadPart' hl
    exact ⟨_, rfl, h⟩
def rRep1 (K : PySem.W.Frag) : R2 := fun x y H Q => ∃ l xs, x = .ref l ∧ y = .int 1 ∧ SqT K H l xs ∧ Q (.ref l) H
theorem op_rep1 {X : Cx} : OpR X (binaryOp .Mult) (rRep1 X.K) := by
  intro pins s σ H x y v u Q I rx ry h
  obtain ⟨l, xs, rfl, rfl, hx, q⟩ := h
  cases rx
  obtain ⟨t, rfl⟩ := ry
  obtain ⟨its, r, pl, hz⟩ := I.tuple hx
  obtain ⟨⟨cls, dd, data, sl⟩, ho, hc, n, hd⟩ := id pl
  simp only at hc hd
  subst hc hd
  exact wpAny_binaryOp_repeat_ref (T := "tuple") (U := "int") (by decide) ⟨_, ho, rfl⟩ (fun s' => typeIs_int s' 1 t) noFill_tuple_mul F.fills_int_mul F.slot_int_rmul repeat_tuple F.slot_int_index.lookup
    (call_meets F.slot_int_rmul (typeIs_int s 1 t) F.entry_int_rmul (F.args_int_rmul_2 _ _) (int_rmul_tuple 1 t l its.toArray n dd sl)
      ⟨ho, rfl, ⟨_, ho, rfl⟩, call_meets F.slot_tuple_mul ⟨_, ho, rfl⟩ F.entry_tuple_mul (F.args_tuple_mul_2 _ _) (tuple_mulOne l its.toArray n dd sl t) ⟨ho, .ref l, H, I, rfl, q⟩⟩)
section
variable {X : Cx} {a b : Expr} {fa fb : FE} {pos : Pos}
/-- *: numbers, a tuple so often, a list so often -/
def mulOk (i j : Int) : Bool := decide (Builtin.Int.intBits i + Builtin.Int.intBits j ≤ 134217728)
def mulD : F2 := fun x y s => match x, y with
  | .int i, .int j => if mulOk i j = true then some (.int (i * j), s) else none
  | .ref n, .int k => match s[n]? with
    | some (.lst xs) => if 0 ≤ k ∧ k < 2 ^ 63 ∧ xs.length * k.toNat ≤ sizeLine then some (.ref s.length, s ++ [.lst (List.replicate k.toNat xs).flatten]) else none
    | _ => none
  | .tup xs, .int k => if k = 1 then some (.tup xs, s) else if xs ≠ [] ∧ 2 ≤ k ∧ k ≤ 1000 ∧ xs.length ≤ 1000 then some (.tup (List.replicate k.toNat xs).flatten, s) else none
  | _, _ => none
theorem VRs.rep {m : List Addr} {H : Hp} {ds : List D} {vs : List V} (h : VRs m H ds vs) : ∀ k : Nat, VRs m H (List.replicate k ds).flatten (List.replicate k vs).flatten
  | 0 => rfl
  | k + 1 => by
    rw [List.replicate_succ, List.replicate_succ, List.flatten_cons, List.flatten_cons]
    exact h.app (VRs.rep h k)
def rMulD (K : PySem.W.Frag) : R2 := fun x y H Q => rI CMulX (fun i j => .int (i * j)) x y H Q ∨ rRep x y H Q ∨ rRep1 K x y H Q ∨ rRepT K x y H Q
theorem o2_mul (K : PySem.W.Frag) : O2 (rMulD K) mulD := by
  intro x y st d st' H m v w Q h S rx ry k
  unfold mulD at h
  split at h
  · split at h
    · rename_i i j hz
      cases h
      refine .inl ⟨i, j, rx, ry, ?_, k _ m H (Ext.refl _ _) S rfl⟩
      have := of_decide_eq_true hz
      unfold CMulX
      omega
    · cases h
  · split at h
    · rename_i n c _ xs e
      split at h
      · rename_i hz
        cases h
        obtain ⟨p, ev, hp⟩ := rx
        obtain ⟨vs, hv, rv⟩ := S.at hp e
        have hl := rv.len
        refine .inr (.inl ⟨p, c, vs, ev, ry, hv, by omega, hz.2.1, by rw [← hl]; exact hz.2.2, fun q hq => ?_⟩)
        refine k _ (m ++ [q]) _ (ext_new hq) (S.laid hq ⟨_, upd_same, (rv.rep _).ext (ext_new hq)⟩) ⟨q, rfl, ?_⟩
        rw [← S.len, List.getElem?_concat_length]
      · cases h
    · cases h
  · split at h
    · rename_i xs c e
      cases h
      subst e
      obtain ⟨p, vs, ev, hp, rv⟩ := rx
      exact .inr (.inr (.inl ⟨p, vs, ev, ry, SqT.of hp, k _ m H (Ext.refl _ _) S ⟨p, vs, rfl, hp, rv⟩⟩))
    · split at h
      · rename_i xs c _ hz
        cases h
        obtain ⟨p, vs, ev, hp, rv⟩ := rx
        have hl := rv.len
        refine .inr (.inr (.inr ⟨p, c, vs, ev, ry, SqT.of hp, fun e => hz.1 (rv.nil_iff.mp e), hz.2.1, hz.2.2.1, by rw [← hl]; exact hz.2.2.2, fun q hq => ?_⟩))
        exact k _ m _ (ext_tup hq) (S.laidT hq) ⟨q, _, rfl, upd_same, (rv.rep _).ext (ext_tup hq)⟩
      · cases h
  · cases h
theorem se_mul (ha : SE X a fa) (hb : SE X b fb) : SE X (.BinOp a .Mult b pos) (fE2 mulD fa fb) := se_op (op_mulX.or (op_rep.or (op_rep1.or op_repT))) (o2_mul X.K) ha hb
/-- // % ** of numbers -/
def fdivD : F2 := fun x y s => match x, y with | .int i, .int j => if (decide (0 < j) && decide (j.natAbs.log2 < 9000)) = true then some (.int (i / j), s) else none | _, _ => none
theorem se_fdiv (ha : SE X a fa) (hb : SE X b fb) : SE X (.BinOp a .FloorDiv b pos) (fE2 fdivD fa fb) :=
  se_op op_fdivW (o2_I (c := fun _ j => decide (0 < j) && decide (j.natAbs.log2 < 9000)) fun i j h => by
    simp only [Bool.and_eq_true, decide_eq_true_eq] at h
    exact ⟨h.1, h.2⟩) ha hb
def modD : F2 := fun x y s => match x, y with | .int i, .int j => if decide (0 < j) = true then some (.int (i % j), s) else none | _, _ => none
theorem se_mod (ha : SE X a fa) (hb : SE X b fb) : SE X (.BinOp a .Mod b pos) (fE2 modD fa fb) := se_op op_mod (o2_I (c := fun _ j => decide (0 < j)) fun i j h => of_decide_eq_true h) ha hb
theorem op_powX : OpR X (binaryOp .Pow) (rI (fun i j => 0 ≤ j ∧ (Builtin.Int.intBits i : Int) * j ≤ 2 ^ 27) fun i j => .int (i ^ j.toNat)) := opI fun _ _ _ _ _ _ _ hc q => pow_int hc.1 hc.2 q
def powD : F2 := fun x y s => match x, y with | .int i, .int j => if (decide (0 ≤ j) && decide ((Builtin.Int.intBits i : Int) * j ≤ 134217728)) = true then some (.int (i ^ j.toNat), s) else none | _, _ => none
theorem se_pow (ha : SE X a fa) (hb : SE X b fb) : SE X (.BinOp a .Pow b pos) (fE2 powD fa fb) :=
  se_op op_powX (o2_I (f := fun i j => i ^ j.toNat) (c := fun i j => decide (0 ≤ j) && decide ((Builtin.Int.intBits i : Int) * j ≤ 134217728)) fun i j h => by
    simp only [Bool.and_eq_true, decide_eq_true_eq] at h
    exact ⟨h.1, h.2⟩) ha hb
def negD : F1 := fun x s => match x with | .int i => some (.int (-i), s) | _ => none
theorem se_neg (ha : SE X a fa) : SE X (.UnaryOp .USub a pos) (fE1 negD fa) := se_un un_neg (by
  intro x st d st' H m v Q h S rx k
  unfold negD at h
  split at h
  · cases h
    exact ⟨_, rx, k _ m H (Ext.refl _ _) S rfl⟩
  · cases h) ha
end

/-! ## comparisons -/
section
variable {X : Cx} {a b : Expr} {fa fb : FE} {pos : Pos}
def eqv2 (f : PyData → PyData → Bool) : F2 := fun x y s => (PL s x).bind fun p => (PL s y).bind fun q => if min p.2 q.2 ≤ 60 then some (.bl (f p.1 q.1), s) else none
def eqD : F2 := eqv2 fun a b => PyData.eqv a b
def neD : F2 := eqv2 fun a b => !PyData.eqv a b
def rData (K : PySem.W.Frag) (f : PyData → PyData → Bool) : R2 := fun x y H Q => ∃ d e, Dp K H x d ∧ Dp K H y e ∧ d.plain = true ∧ e.plain = true ∧ min d.depth e.depth ≤ 60 ∧ Q (.bl (f d e)) H
theorem o2_data (K : PySem.W.Frag) (f : PyData → PyData → Bool) : O2 (rData K f) (eqv2 f) := by
  intro x y st d st' H m v w Q h S rx ry k
  obtain ⟨⟨dx, kx⟩, h1, h⟩ := Option.bind_eq_some_iff.mp h
  obtain ⟨⟨dy, ky⟩, h2, h⟩ := Option.bind_eq_some_iff.mp h
  simp only at h
  split at h
  · rename_i hz
    cases h
    obtain ⟨a1, a2, a3⟩ := PL_ok (K := K) S h1 rx
    obtain ⟨b1, b2, b3⟩ := PL_ok (K := K) S h2 ry
    exact ⟨dx, dy, a1, b1, a2, b2, by rw [a3, b3]; exact hz, k _ m H (Ext.refl _ _) S rfl⟩
  · cases h
theorem op_eqX (hu : X.A.units + 64 < cLine) : OpR X (compareOp .Eq) (rData X.K fun a b => PyData.eqv a b) := by
  intro pins s σ H x y v u Q I rx ry h
  obtain ⟨d, e, hd, he, pd, pe, hz, q⟩ := h
  obtain ⟨as, r1⟩ := Dp.reads I d x v hd rx
  obtain ⟨bs, r2⟩ := Dp.reads I e y u he ry
  exact SeqAt.eq_plain r1 r2 pd pe (by omega) ⟨.bl _, H, I, rfl, q⟩
theorem op_neX (hu : X.A.units + 64 < cLine) : OpR X (compareOp .NotEq) (rData X.K fun a b => !PyData.eqv a b) := by
  intro pins s σ H x y v u Q I rx ry h
  obtain ⟨d, e, hd, he, pd, pe, hz, q⟩ := h
  obtain ⟨as, r1⟩ := Dp.reads I d x v hd rx
  obtain ⟨bs, r2⟩ := Dp.reads I e y u he ry
  exact SeqAt.ne_plain r1 r2 pd pe (by omega) ⟨.bl _, H, I, rfl, q⟩
/-- < of numbers, texts, data -/
def ltD : F2 := fun x y s => match x, y with
  | .int i, .int j => some (.bl (decide (i < j)), s)
  | .str i, .str j => some (.bl (decide (i.cps.toList < j.cps.toList)), s)
  | .tup i, .tup j => if (D.pures i && D.pures j && W.alikeAll (D.Ps i) (D.Ps j) && decide (min (D.deps i) (D.deps j) ≤ 60)) = true then some (.bl (W.dataLt (.tuple (D.Ps i)) (.tuple (D.Ps j))), s) else none
  | _, _ => none
def rLtX (K : PySem.W.Frag) : R2 := fun x y H Q => rI0 (fun i j => .bl (decide (i < j))) x y H Q ∨ (∃ i j, x = .str i ∧ y = .str j ∧ Q (.bl (decide (i.cps.toList < j.cps.toList))) H) ∨
  (∃ d e, Dp K H x d ∧ Dp K H y e ∧ W.alike d e = true ∧ d ≠ .none ∧ min d.depth e.depth ≤ 61 ∧ Q (.bl (W.dataLt d e)) H)
theorem op_ltX (hu : X.A.units + 64 < cLine) : OpR X (compareOp .Lt) (rLtX X.K) := by
  refine op_lt.or (op_lt_str.or ?_)
  intro pins s σ H x y v u Q I rx ry h
  obtain ⟨d, e, hd, he, al, nn, hz, q⟩ := h
  obtain ⟨as, r1⟩ := Dp.reads I d x v hd rx
  obtain ⟨bs, r2⟩ := Dp.reads I e y u he ry
  exact W.lt_data r1 r2 al nn (by omega) ⟨.bl _, H, I, rfl, q⟩
theorem o2_lt (K : PySem.W.Frag) : O2 (rLtX K) ltD := by
  intro x y st d st' H m v w Q h S rx ry k
  unfold ltD at h
  split at h
  · cases h
    exact .inl ⟨_, _, rx, ry, k _ m H (Ext.refl _ _) S rfl⟩
  · cases h
    exact .inr (.inl ⟨_, _, rx, ry, k _ m H (Ext.refl _ _) S rfl⟩)
  · split at h
    · rename_i i j hc
      cases h
      simp only [Bool.and_eq_true, decide_eq_true_eq] at hc
      obtain ⟨⟨⟨h1, h2⟩, h3⟩, h4⟩ := hc
      have e1 : Dp K H v (.tuple (D.Ps i)) := by
        have := VR.dp (K := K) (d := .tup i) (by simpa [D.pure] using h1) rx
        simpa only [D.P] using this
      have e2 : Dp K H w (.tuple (D.Ps j)) := by
        have := VR.dp (K := K) (d := .tup j) (by simpa [D.pure] using h2) ry
        simpa only [D.P] using this
      refine .inr (.inr ⟨_, _, e1, e2, by simp only [W.alike]; exact h3, (fun z => nomatch z), ?_, k _ m H (Ext.refl _ _) S rfl⟩)
      simp only [PyData.depth, D.depPs]
      omega
    · cases h
  · cases h
def ltI (f : Int → Int → Bool) : F2 := fun x y s => match x, y with | .int i, .int j => some (.bl (f i j), s) | _, _ => none
def leD : F2 := ltI fun i j => decide (i ≤ j)
def gtD : F2 := ltI fun i j => decide (j < i)
def geD : F2 := ltI fun i j => decide (j ≤ i)
/-- is, is not: None, True, False -/
def isD : F2 := fun x y s => match y with
  | .non => match x with
    | .non => some (.bl true, s)
    | _ => some (.bl false, s)
  | .bl b => match x with
    | .bl a => some (.bl (decide (a = b)), s)
    | _ => none
  | _ => none
def isnD : F2 := fun x y s => match y with
  | .non => match x with
    | .non => some (.bl false, s)
    | _ => some (.bl true, s)
  | .bl b => match x with
    | .bl a => some (.bl (!decide (a = b)), s)
    | _ => none
  | _ => none
theorem VR.non_iff {m : List Addr} {H : Hp} {d : D} {v : V} (h : VR m H d v) : v = .non ↔ d = .non := by
  cases d with
  | tup ds => obtain ⟨p, vs, e, _⟩ := h; subst e; simp
  | ft ds => obtain ⟨p, o, vs, e, _⟩ := h; subst e; simp
  | ref n => obtain ⟨p, e, _⟩ := h; subst e; simp
  | _ => rw [show v = _ from h]; simp
theorem o2_is : O2 (fun x y H Q => (y = .non ∧ Q (.bl (decide (x = .non))) H) ∨ ∃ a b, x = .bl a ∧ y = .bl b ∧ Q (.bl (decide (a = b))) H) isD := by
  intro x y st d st' H m v w Q h S rx ry k
  unfold isD at h
  split at h
  · left
    refine ⟨ry, ?_⟩
    split at h
    · cases h
      exact k _ m H (Ext.refl _ _) S (by rw [decide_eq_true (rx.non_iff.mpr rfl)]; rfl)
    · rename_i hn
      cases h
      exact k _ m H (Ext.refl _ _) S (by rw [decide_eq_false fun z => hn (rx.non_iff.mp z)]; rfl)
  · split at h
    · cases h
      exact .inr ⟨_, _, rx, ry, k _ m H (Ext.refl _ _) S rfl⟩
    · cases h
  · cases h
theorem o2_isn : O2 (fun x y H Q => (y = .non ∧ Q (.bl (!decide (x = .non))) H) ∨ ∃ a b, x = .bl a ∧ y = .bl b ∧ Q (.bl (!decide (a = b))) H) isnD := by
  intro x y st d st' H m v w Q h S rx ry k
  unfold isnD at h
  split at h
  · left
    refine ⟨ry, ?_⟩
    split at h
    · cases h
      exact k _ m H (Ext.refl _ _) S (by rw [decide_eq_true (rx.non_iff.mpr rfl)]; rfl)
    · rename_i hn
      cases h
      exact k _ m H (Ext.refl _ _) S (by rw [decide_eq_false fun z => hn (rx.non_iff.mp z)]; rfl)
  · split at h
    · cases h
      exact .inr ⟨_, _, rx, ry, k _ m H (Ext.refl _ _) S rfl⟩
    · cases h
  · cases h
end
end FL

set_option Elab.async false
set_option linter.all false
set_option maxRecDepth 100000
set_option autoImplicit false
namespace FL
open PySem PySem.Spec PyProof.Rows L2

/-! ## dicts by keys -/
def keyD : D → Option Key
  | .int i => some (.inl i)
  | .str x => some (.inr x)
  | _ => none
def keysD : List D → Option (List Key)
  | [] => some []
  | d :: ds => (keyD d).bind fun k => (keysD ds).bind fun r => some (k :: r)
theorem keyD_ok {m : List Addr} {H : Hp} {d : D} {v : V} {k : Key} (h : keyD d = some k) (r : VR m H d v) : v = kV k := by
  unfold keyD at h
  split at h
  · cases h; exact r
  · cases h; exact r
  · cases h
theorem keysD_ok {m : List Addr} {H : Hp} : ∀ {ds : List D} {vs : List V} {ks : List Key}, keysD ds = some ks → VRs m H ds vs → vs = ks.map kV
  | [], vs, ks, h, r => by cases h; exact r
  | d :: ds, vs, ks, h, r => by
    obtain ⟨k, h1, h⟩ := Option.bind_eq_some_iff.mp h
    obtain ⟨kr, h2, h⟩ := Option.bind_eq_some_iff.mp h
    cases h
    obtain ⟨v, t, e, r1, r2⟩ := r
    rw [e, keyD_ok h1 r1, keysD_ok h2 r2]
    rfl
def kD : Key → D
  | .inl i => .int i
  | .inr x => .str x
theorem kD_VR {m : List Addr} {H : Hp} (k : Key) : VR m H (kD k) (kV k) := by cases k <;> rfl
theorem kDs_VRs {m : List Addr} {H : Hp} : ∀ ks : List Key, VRs m H (ks.map kD) (ks.map kV)
  | [] => rfl
  | k :: ks => ⟨_, _, rfl, kD_VR k, kDs_VRs ks⟩
section
variable {κ : Type} [DecidableEq κ]
def valD : List (κ × D) → κ → Option D
  | [], _ => none
  | a :: r, k => if a.1 = k then some a.2 else valD r k
def hasD (kvs : List (κ × D)) (k : κ) : Bool := (valD kvs k).isSome
def setD : List (κ × D) → κ → D → List (κ × D)
  | [], _, _ => []
  | a :: r, k, d => if a.1 = k then (a.1, d) :: setD r k d else a :: setD r k d
def putD (kvs : List (κ × D)) (k : κ) (d : D) : List (κ × D) := if hasD kvs k = true then setD kvs k d else kvs ++ [(k, d)]
theorem KR.val {m : List Addr} {H : Hp} (k : κ) : ∀ {kvs : List (κ × D)} {ws : List (κ × V)}, KR m H kvs ws → (valD kvs k = none ∧ valV ws k = none) ∨ ∃ d v, valD kvs k = some d ∧ valV ws k = some v ∧ VR m H d v
  | _, _, .nil => .inl ⟨rfl, rfl⟩
  | a :: r, b :: t, .cons z q => by
    unfold valD
    by_cases e : a.1 = k
    · rw [if_pos e, valV_pos (by rw [← z.1, e])]
      exact .inr ⟨_, _, rfl, rfl, z.2⟩
    · rw [if_neg e, valV_neg (by rw [← z.1]; exact e)]
      exact KR.val k q
theorem KR.len {m : List Addr} {H : Hp} : ∀ {kvs : List (κ × D)} {ws : List (κ × V)}, KR m H kvs ws → kvs.length = ws.length
  | _, _, .nil => rfl
  | _, _, .cons _ q => by rw [List.length_cons, List.length_cons, KR.len q]
theorem KR.setK {m : List Addr} {H : Hp} {k : κ} {d : D} {v : V} (r : VR m H d v) : ∀ {kvs : List (κ × D)} {ws : List (κ × V)}, KR m H kvs ws → KR m H (setD kvs k d) (ws.map fun kv => if kv.1 = k then (kv.1, v) else kv)
  | _, _, .nil => .nil
  | a :: u, b :: t, .cons z q => by
    unfold setD
    rw [List.map_cons]
    by_cases e : a.1 = k
    · rw [if_pos e, if_pos (by rw [← z.1]; exact e)]
      exact .cons ⟨z.1, r⟩ (KR.setK r q)
    · rw [if_neg e, if_neg (by rw [← z.1]; exact e)]
      exact .cons z (KR.setK r q)
theorem KR.app {m : List Addr} {H : Hp} : ∀ {kvs kvs' : List (κ × D)} {ws ws' : List (κ × V)}, KR m H kvs ws → KR m H kvs' ws' → KR m H (kvs ++ kvs') (ws ++ ws')
  | _, _, _, _, .nil, q => q
  | _, _, _, _, .cons z t, q => .cons z (KR.app t q)
theorem KR.put {m : List Addr} {H : Hp} {k : κ} {d : D} {v : V} {kvs : List (κ × D)} {ws : List (κ × V)} (q : KR m H kvs ws) (r : VR m H d v) : KR m H (putD kvs k d) (putK ws k v) := by
  unfold putD putK
  rw [valV_any]
  have : hasD kvs k = (valV ws k).isSome := by
    unfold hasD
    rcases KR.val k q with ⟨h1, h2⟩ | ⟨d', v', h1, h2, _⟩
    · rw [h1, h2]; rfl
    · rw [h1, h2]; rfl
  rw [this]
  split
  · exact KR.setK r q
  · exact KR.app q (.cons ⟨rfl, r⟩ .nil)
end
def unlk : O → O
  | .lk o => o
  | o => o
/-- none: no dict, or no key -/
def dget (st : Sto) (n : Nat) (y : D) : Option (Option D) := match (st[n]?).map unlk with
  | some (.dK kvs) => (keyD y).map (valD kvs)
  | some (.dT kvs) => match y with
    | .tup ds => (keysD ds).map (valD kvs)
    | _ => none
  | _ => none
theorem OR.dK {m : List Addr} {H : Hp} {o : O} {p : Addr} {kvs : List (Key × D)} (h : OR m H o p) (e : unlk o = .dK kvs) : ∃ ws, Rd H p (.dK ws) ∧ KR m H kvs ws := by
  cases o with
  | dK k => cases e; obtain ⟨ws, h1, h2⟩ := h; exact ⟨ws, .inl h1, h2⟩
  | lk o => cases e; obtain ⟨o, ws, h1, h2⟩ := h; exact ⟨ws, .inr ⟨o, h1⟩, h2⟩
  | _ => cases e
theorem OR.dT {m : List Addr} {H : Hp} {o : O} {p : Addr} {kvs : List (List Key × D)} (h : OR m H o p) (e : unlk o = .dT kvs) : ∃ ws, Rd H p (.dT ws) ∧ KR m H kvs ws := by
  cases o with
  | dT k => cases e; obtain ⟨ws, h1, h2⟩ := h; exact ⟨ws, .inl h1, h2⟩
  | lk o => cases e; obtain ⟨o, ws, h1, h2⟩ := h; exact ⟨ws, .inr ⟨o, h1⟩, h2⟩
  | _ => cases e
theorem dget_ok {m : List Addr} {H : Hp} {st : Sto} (S : SimO m H st) {n : Nat} {p : Addr} {y : D} {w : V} {o : Option D} (h : dget st n y = some o) (hp : m[n]? = some p) (r : VR m H y w) :
    (o = none ∧ DGet H p w none) ∨ ∃ d v, o = some d ∧ DGet H p w (some v) ∧ VR m H d v := by
  unfold dget at h
  cases e : st[n]? with
  | none => rw [e] at h; cases h
  | some ob =>
    rw [e, Option.map_some] at h
    have q := S.at hp e
    split at h
    · rename_i kvs eo
      obtain ⟨k, hk, h⟩ := Option.map_eq_some_iff.mp h
      obtain ⟨ws, hw, kr⟩ := q.dK (Option.some.inj eo)
      have ew := keyD_ok hk r
      rcases KR.val k kr with ⟨h1, h2⟩ | ⟨d, v, h1, h2, rv⟩
      · exact .inl ⟨by rw [← h, h1], .inl ⟨ws, k, hw, ew, h2.symm⟩⟩
      · exact .inr ⟨d, v, by rw [← h, h1], .inl ⟨ws, k, hw, ew, h2.symm⟩, rv⟩
    · rename_i kvs eo
      cases y with
      | tup ds =>
        obtain ⟨k, hk, h⟩ := Option.map_eq_some_iff.mp h
        obtain ⟨ws, hw, kr⟩ := q.dT (Option.some.inj eo)
        obtain ⟨b, vs, ev, hb, rs⟩ := r
        have es := keysD_ok hk rs
        subst es
        rcases KR.val k kr with ⟨h1, h2⟩ | ⟨d, v, h1, h2, rv⟩
        · exact .inl ⟨by rw [← h, h1], .inr ⟨ws, k, b, hw, ev, hb, h2.symm⟩⟩
        · exact .inr ⟨d, v, by rw [← h, h1], .inr ⟨ws, k, b, hw, ev, hb, h2.symm⟩, rv⟩
      | _ => cases h
    · cases h
/-- the store behind d[y] = v -/
def dput (st : Sto) (n : Nat) (y v : D) : Option Sto := match st[n]? with
  | some (.dK kvs) => (keyD y).bind fun k => if kvs.length < sizeLine then some (st.set n (.dK (putD kvs k v))) else none
  | some (.dT kvs) => match y with
    | .tup ds => (keysD ds).bind fun k => if kvs.length < sizeLine then some (st.set n (.dT (putD kvs k v))) else none
    | _ => none
  | _ => none
theorem dput_ok {m : List Addr} {H : Hp} {st st' : Sto} (S : SimO m H st) {n : Nat} {p : Addr} {y d : D} {w v : V} (h : dput st n y d = some st') (hp : m[n]? = some p) (r : VR m H y w) (rd : VR m H d v) :
    ∃ H', DPut H p w v H' ∧ Ext m H m H' ∧ SimO m H' st' := by
  unfold dput at h
  split at h
  · rename_i kvs e
    obtain ⟨k, hk, h⟩ := Option.bind_eq_some_iff.mp h
    split at h
    · rename_i hz
      cases h
      obtain ⟨ws, hw, kr⟩ := S.at hp e
      have x : Ext m H m (upd H p (.dK (putK ws k v))) := ext_write hw fun _ z => nomatch z
      exact ⟨_, .inl ⟨ws, k, hw, keyD_ok hk r, by rw [← kr.len]; exact hz, rfl⟩, x, S.write hp hw (fun _ z => nomatch z) ⟨_, upd_same, (kr.put rd).ext x⟩⟩
    · cases h
  · rename_i kvs e
    cases y with
    | tup ds =>
      obtain ⟨k, hk, h⟩ := Option.bind_eq_some_iff.mp h
      split at h
      · rename_i hz
        cases h
        obtain ⟨ws, hw, kr⟩ := S.at hp e
        obtain ⟨b, vs, ev, hb, rs⟩ := r
        have es := keysD_ok hk rs
        subst es
        have x : Ext m H m (upd H p (.dT (putK ws k v))) := ext_write hw fun _ z => nomatch z
        exact ⟨_, .inr ⟨ws, k, b, hw, ev, hb, by rw [← kr.len]; exact hz, rfl⟩, x, S.write hp hw (fun _ z => nomatch z) ⟨_, upd_same, (kr.put rd).ext x⟩⟩
      · cases h
    | _ => cases h
  · cases h

/-! ## in, not in -/
section
variable {X : Cx} {a b : Expr} {fa fb : FE} {pos : Pos}
def inS (neg : Bool) : F2 := fun x y s => match y with
  | .str z => match x with
    | .str c => match c.cps.toList with
      | [i] => some (.bl (if neg = true then !decide (i ∈ z.cps.toList) else decide (i ∈ z.cps.toList)), s)
      | _ => none
    | _ => none
  | .tup ds => if (x.pure && D.pures ds && decide (min (D.deps ds) x.dep ≤ 60)) = true then some (.bl (if neg = true then !((D.Ps ds).any fun z => PyData.eqv z x.P) else (D.Ps ds).any fun z => PyData.eqv z x.P), s) else none
  | .ft ds => if (x.pure && D.pures ds && decide (min (D.deps ds) x.dep ≤ 60)) = true then some (.bl (if neg = true then !((D.Ps ds).any fun z => PyData.eqv z x.P) else (D.Ps ds).any fun z => PyData.eqv z x.P), s) else none
  | .ref n => match s[n]? with
    | some (.lst ds) => if (x.pure && D.pures ds && decide (min (D.deps ds) x.dep ≤ 60)) = true then some (.bl (if neg = true then !((D.Ps ds).any fun z => PyData.eqv z x.P) else (D.Ps ds).any fun z => PyData.eqv z x.P), s) else none
    | _ => (dget s n x).map fun o => (.bl (if neg = true then !o.isSome else o.isSome), s)
  | _ => none
def inD : F2 := inS false
def notInD : F2 := inS true
def rInS (K : PySem.W.Frag) (neg : Bool) : R2 := fun x y H Q => (∃ (c : Nat) (z : Str), x = .str ⟨#[c]⟩ ∧ y = .str z ∧ Q (.bl (if neg = true then !decide (c ∈ z.cps.toList) else decide (c ∈ z.cps.toList))) H) ∨
  (∃ d ds, Dp K H x d ∧ (Dp K H y (.tuple ds) ∨ Dp K H y (.list ds)) ∧ d.plain = true ∧ PyData.plainAll ds = true ∧ min (PyData.depthAll ds) d.depth ≤ 60 ∧ Q (.bl (if neg = true then !(ds.any fun z => PyData.eqv z d) else ds.any fun z => PyData.eqv z d)) H) ∨
  (∃ a o, y = .ref a ∧ DGet H a x o ∧ Q (.bl (if neg = true then !o.isSome else o.isSome)) H)
theorem o2_inS (K : PySem.W.Frag) (neg : Bool) : O2 (rInS K neg) (inS neg) := by
  intro x y st d st' H m v w Q h S rx ry k
  have seq : ∀ {ds : List D}, (x.pure && D.pures ds && decide (min (D.deps ds) x.dep ≤ 60)) = true → (Dp K H w (.tuple (D.Ps ds)) ∨ Dp K H w (.list (D.Ps ds))) →
      some (D.bl (if neg = true then !((D.Ps ds).any fun z => PyData.eqv z x.P) else (D.Ps ds).any fun z => PyData.eqv z x.P), st) = some (d, st') → rInS K neg v w H Q := by
    intro ds hc hd h
    cases h
    simp only [Bool.and_eq_true, decide_eq_true_eq] at hc
    refine .inr (.inl ⟨x.P, D.Ps ds, VR.dp hc.1.1 rx, hd, D.plainP x, D.plainPs ds, by rw [D.depPs, D.depP]; exact hc.2, ?_⟩)
    exact k _ m H (Ext.refl _ _) S rfl
  unfold inS at h
  split at h
  · split at h
    · rename_i z _ c
      split at h
      · rename_i i ei
        cases h
        have ec : c = ⟨#[i]⟩ := by
          obtain ⟨a⟩ := c
          obtain ⟨l⟩ := a
          simp at ei
          rw [ei]
        subst ec
        exact .inl ⟨i, z, rx, ry, k _ m H (Ext.refl _ _) S rfl⟩
      · cases h
    · cases h
  · rename_i ds
    split at h
    · rename_i hc
      refine seq hc (.inl ?_) h
      simp only [Bool.and_eq_true] at hc
      have := VR.dp (K := K) (d := .tup ds) (by simpa [D.pure] using hc.1.2) ry
      simpa only [D.P] using this
    · cases h
  · rename_i ds
    split at h
    · rename_i hc
      refine seq hc (.inl ?_) h
      simp only [Bool.and_eq_true] at hc
      have := VR.dp (K := K) (d := .ft ds) (by simpa [D.pure] using hc.1.2) ry
      simpa only [D.P] using this
    · cases h
  · rename_i n
    obtain ⟨p, ev, hp⟩ := ry
    subst ev
    split at h
    · rename_i ds e
      split at h
      · rename_i hc
        refine seq hc (.inr ?_) h
        obtain ⟨vs, hv, rv⟩ := S.at hp e
        simp only [Bool.and_eq_true] at hc
        exact .lst (SqL.of hv) (VRs.dp hc.1.2 rv)
      · cases h
    · obtain ⟨o, ho, h⟩ := Option.map_eq_some_iff.mp h
      cases h
      rcases dget_ok S ho hp rx with ⟨e1, g⟩ | ⟨d', v', e1, g, _⟩
      · subst e1
        exact .inr (.inr ⟨p, none, rfl, g, k _ m H (Ext.refl _ _) S rfl⟩)
      · subst e1
        exact .inr (.inr ⟨p, some v', rfl, g, k _ m H (Ext.refl _ _) S rfl⟩)
  · cases h
theorem op_inX (hu : X.A.units + 64 < cLine) : OpR X (compareOp .In) (rInS X.K false) := by
  intro pins s σ H x y v u Q I rx ry h
  rcases h with h | ⟨d, ds, hd, hc, pd, pds, hz, q⟩ | ⟨a, o, rfl, g, q⟩
  · exact op_in_sign pins s σ H x y v u Q I rx ry h
  · obtain ⟨as, r1⟩ := Dp.reads I d x v hd rx
    rcases hc with hc | hc
    · obtain ⟨bs, r2⟩ := Dp.reads I _ y u hc ry
      exact SeqAt.in_tuple_data r2 r1 pds pd (by omega) ⟨.bl _, H, I, rfl, q⟩
    · obtain ⟨bs, r2⟩ := Dp.reads I _ y u hc ry
      exact SeqAt.in_list_data r2 r1 pds pd (by omega) ⟨.bl _, H, I, rfl, q⟩
  · cases ry
    exact d_in (by omega) I g rx fun s' I' => ⟨.bl _, H, I', rfl, q⟩
theorem op_notInX (hu : X.A.units + 64 < cLine) : OpR X (compareOp .NotIn) (rInS X.K true) := by
  intro pins s σ H x y v u Q I rx ry h
  rcases h with h | ⟨d, ds, hd, hc, pd, pds, hz, q⟩ | ⟨a, o, rfl, g, q⟩
  · exact op_notIn_sign pins s σ H x y v u Q I rx ry h
  · obtain ⟨as, r1⟩ := Dp.reads I d x v hd rx
    rcases hc with hc | hc
    · obtain ⟨bs, r2⟩ := Dp.reads I _ y u hc ry
      exact SeqAt.notIn_tuple_data r2 r1 pds pd (by omega) ⟨.bl _, H, I, rfl, q⟩
    · obtain ⟨bs, r2⟩ := Dp.reads I _ y u hc ry
      exact SeqAt.notIn_list_data r2 r1 pds pd (by omega) ⟨.bl _, H, I, rfl, q⟩
  · cases ry
    exact d_notIn (by omega) I g rx fun s' I' => ⟨.bl _, H, I', rfl, q⟩
end

/-! ## subscripts -/
section
variable {X : Cx} {a b : Expr} {fa fb : FE} {pos : Pos}
def seqOf (st : Sto) : D → Option (List D)
  | .tup ds => some ds
  | .ft ds => some ds
  | .ref n => match st[n]? with
    | some (.lst ds) => some ds
    | some (.rol ds) => some ds
    | some (.lk (.lst ds)) => some ds
    | _ => none
  | _ => none
theorem seqOf_ok {K : PySem.W.Frag} {m : List Addr} {H : Hp} {st : Sto} (S : SimO m H st) {x : D} {v : V} {ds : List D} (h : seqOf st x = some ds) (r : VR m H x v) : ∃ p vs, v = .ref p ∧ (SqT K H p vs ∨ SqL K H p vs) ∧ VRs m H ds vs := by
  unfold seqOf at h
  split at h
  · cases h
    obtain ⟨p, vs, e, hp, rv⟩ := r
    exact ⟨p, vs, e, .inl (SqT.of hp), rv⟩
  · cases h
    obtain ⟨p, o, vs, e, hp, _, rv⟩ := r
    exact ⟨p, vs, e, .inl (.inl (.inr ⟨o, hp⟩)), rv⟩
  · obtain ⟨p, ev, hp⟩ := r
    split at h
    · rename_i e
      cases h
      obtain ⟨vs, hv, rv⟩ := S.at hp e
      exact ⟨p, vs, ev, .inr (SqL.of hv), rv⟩
    · rename_i e
      cases h
      obtain ⟨vs, hv, rv⟩ := S.at hp e
      exact ⟨p, vs, ev, .inr (.inl hv), rv⟩
    · rename_i e
      cases h
      obtain ⟨o, vs, hv, rv⟩ := S.at hp e
      exact ⟨p, vs, ev, .inr (.inl (.inr ⟨o, hv⟩)), rv⟩
    · cases h
  · cases h
theorem VRs.atI {m : List Addr} {H : Hp} {ds : List D} {vs : List V} (r : VRs m H ds vs) {i : Int} {d : D} (h : atI ds i = some d) : ∃ v, L2.atI vs i = some v ∧ VR m H d v := by
  unfold L2.atI at *
  rw [← r.len]
  cases e : ixN ds.length i with
  | none => rw [e] at h; cases h
  | some j =>
    rw [e] at h
    exact r.at h
def ixD : F2 := fun x y s => match x with
  | .str z => match y with
    | .int i => if z.length ≤ sizeLine then (atI z.cps.toList i).map fun c => (.str ⟨#[c]⟩, s) else none
    | _ => none
  | _ => match seqOf s x with
    | some ds => match y with
      | .int i => (atI ds i).map fun d => (d, s)
      | _ => none
    | none => match x with
      | .ref n => (dget s n y).bind fun o => o.map fun d => (d, s)
      | _ => none
def rIxX (K : PySem.W.Frag) : R2 := fun x y H Q => rIx K x y H Q ∨ ∃ a v, x = .ref a ∧ DGet H a y (some v) ∧ Q v H
theorem ix_dict (hu : X.A.units + 64 < cLine) : IxR X (fun x y H Q => ∃ a v, x = .ref a ∧ DGet H a y (some v) ∧ Q v H) := by
  intro value slice pins s σ H x y v u Q I rx ry h hs
  obtain ⟨a, z, rfl, g, q⟩ := h
  cases rx
  exact tail_any (dict_typeIs I g) PySem.F.slot_dict_getitem.lookup (d_getItem (by omega) I g ry fun w' s' I' r' => ⟨z, H, I', r', q⟩) hs
theorem ix_X (hu : X.A.units + 64 < cLine) : IxR X (rIxX X.K) := ix_seq.or (ix_dict hu)
theorem o2_ix (K : PySem.W.Frag) : O2 (rIxX K) ixD := by
  intro x y st d st' H m v w Q h S rx ry k
  unfold ixD at h
  split at h
  · split at h
    · split at h
      · rename_i z _ i hz
        obtain ⟨c, hc, h⟩ := Option.map_eq_some_iff.mp h
        cases h
        exact .inl (.inr (.inr ⟨z, i, c, rx, ry, hz, hc, k _ m H (Ext.refl _ _) S rfl⟩))
      · cases h
    · cases h
  · split at h
    · rename_i ds hs
      split at h
      · rename_i i
        obtain ⟨c, hc, h⟩ := Option.map_eq_some_iff.mp h
        cases h
        obtain ⟨p, vs, ev, hq, rv⟩ := seqOf_ok (K := K) S hs rx
        obtain ⟨u, hu, ru⟩ := rv.atI hc
        rcases hq with hq | hq
        · exact .inl (.inr (.inl ⟨p, vs, i, u, ev, ry, hq, hu, k _ m H (Ext.refl _ _) S ru⟩))
        · exact .inl (.inl ⟨p, vs, i, u, ev, ry, hq, hu, k _ m H (Ext.refl _ _) S ru⟩)
      · cases h
    · split at h
      · obtain ⟨o, ho, h⟩ := Option.bind_eq_some_iff.mp h
        obtain ⟨c, hc, h⟩ := Option.map_eq_some_iff.mp h
        cases h
        obtain ⟨p, ev, hp⟩ := rx
        subst ev
        rcases dget_ok S ho hp ry with ⟨e1, g⟩ | ⟨d', v', e1, g, rv⟩
        · rw [e1] at hc; cases hc
        · rw [e1] at hc; cases hc
          exact .inr ⟨p, v', rfl, g, k _ m H (Ext.refl _ _) S rv⟩
      · cases h
theorem se_ixD (hu : X.A.units + 64 < cLine) (ha : SE X a fa) (hb : SE X b fb) (hs : PlainIx b := by exact fun _ _ => rfl) : SE X (.Subscript a b pos) (fE2 ixD fa fb) := se_ix (ix_X hu) (o2_ix X.K) ha hb hs
/-! slices -/
abbrev FO := Loc → Sto → Option (Option Int × Sto)
def RO (t : TO) (f : FO) : Prop := ∀ (L : Loc) (st : Sto) (o : Option Int) (st' : Sto) (σ : L2.St) (H : Hp) (m : List Addr) (Q : Option Int → Hp → Prop), f L st = some (o, st') → SimO m H st → LR m H L σ → (∀ m' H', Ext m H m' H' → SimO m' H' st' → Q o H') → t σ H Q
def SO (X : Cx) (e : Option Expr) (f : FO) : Prop := ∃ t, PO X e t ∧ RO t f
def fO0 : FO := fun _ s => some (none, s)
def fO1 (f : FE) : FO := fun L s => (f L s).bind fun p => match p.1 with | .int i => some (some i, p.2) | _ => none
theorem so_none : SO X none fO0 := ⟨_, po_none, fun L st o st' σ H m Q h S l k => by
  cases h
  exact k m H (Ext.refl _ _) S⟩
theorem so_some {e : Expr} {f : FE} (h : SE X e f) : SO X (some e) (fO1 f) := by
  obtain ⟨t, p, r⟩ := h
  refine ⟨_, po_some p, fun L st o st' σ H m Q h S l k => ?_⟩
  obtain ⟨⟨d, s1⟩, h1, h⟩ := Option.bind_eq_some_iff.mp h
  simp only at h
  split at h
  · rename_i i
    cases h
    exact r L st _ _ σ H m _ h1 S l fun v m1 H1 x1 S1 r1 => ⟨_, r1, k m1 H1 x1 S1⟩
  · cases h
def cutD {α : Type} (xs : List α) (lo hi : Option Int) : List α := (xs.drop (HT.sIx xs.length 0 lo)).take (HT.sIx xs.length xs.length hi - HT.sIx xs.length 0 lo)
def wholeB (n : Nat) (lo hi : Option Int) : Bool := decide (HT.sIx n 0 lo = 0) && decide (HT.sIx n n hi = n)
def slD (x : D) (lo hi : Option Int) (s : Sto) : Option (D × Sto) := match x with
  | .tup ds => some (.tup (cutD ds lo hi), s)
  | .ft ds => if wholeB ds.length lo hi = true then some (.ft ds, s) else some (.tup (cutD ds lo hi), s)
  | .ref n => match s[n]? with
    | some (.lst ds) => some (.ref s.length, s ++ [.lst (cutD ds lo hi)])
    | _ => none
  | _ => none
def fSl (f : FE) (g h : FO) : FE := fun L s => (f L s).bind fun p => (g L p.2).bind fun q => (h L q.2).bind fun r => slD p.1 q.1 r.1 r.2
theorem VRs.drop {m : List Addr} {H : Hp} : ∀ {ds : List D} {vs : List V} (n : Nat), VRs m H ds vs → VRs m H (ds.drop n) (vs.drop n)
  | _, _, 0, h => h
  | [], _, n + 1, h => by
    rw [show _ = [] from h]
    exact rfl
  | d :: ds, _, n + 1, h => by
    obtain ⟨v, t, e, _, h2⟩ := h
    rw [e]
    exact VRs.drop n h2
theorem VRs.take {m : List Addr} {H : Hp} : ∀ {ds : List D} {vs : List V} (n : Nat), VRs m H ds vs → VRs m H (ds.take n) (vs.take n)
  | _, _, 0, h => rfl
  | [], _, n + 1, h => by
    rw [show _ = [] from h]
    exact rfl
  | d :: ds, _, n + 1, h => by
    obtain ⟨v, t, e, h1, h2⟩ := h
    rw [e]
    exact ⟨v, _, rfl, h1, VRs.take n h2⟩
theorem VRs.cut' {m : List Addr} {H : Hp} {ds : List D} {vs : List V} (r : VRs m H ds vs) (lo hi : Option Int) : VRs m H (cutD ds lo hi) (cutV vs lo hi) := by
  unfold cutD cutV
  rw [r.len]
  exact (r.drop _).take _
theorem cut_whole {α : Type} {xs : List α} {lo hi : Option Int} (h : HT.sIx xs.length 0 lo = 0 ∧ HT.sIx xs.length xs.length hi = xs.length) : cutD xs lo hi = xs := by
  unfold cutD
  rw [h.1, h.2]
  simp
def rSlX (K : PySem.W.Frag) : V → Option Int → Option Int → Hp → VK → Prop := fun x lo hi H Q => rSlA K x lo hi H Q ∨ rSlL K x lo hi H Q
theorem se_sl {e : Expr} {lo hi : Option Expr} {f : FE} {g h : FO} {p2 : Pos} (he : SE X e f) (hl : SO X lo g) (hu : SO X hi h) : SE X (.Subscript e (.Slice lo hi none p2) pos) (fSl f g h) := by
  obtain ⟨te, pe, re⟩ := he
  obtain ⟨tl, pl, rl⟩ := hl
  obtain ⟨tu, pu, ru⟩ := hu
  refine ⟨_, pe_slice (SlR.or sl_tupA sl_list) pe pl pu, fun L st d st' σ H m Q e S l k => ?_⟩
  obtain ⟨⟨x, s1⟩, h1, e⟩ := Option.bind_eq_some_iff.mp e
  obtain ⟨⟨o1, s2⟩, h2, e⟩ := Option.bind_eq_some_iff.mp e
  obtain ⟨⟨o2, s3⟩, h3, e⟩ := Option.bind_eq_some_iff.mp e
  refine re L st x s1 σ H m _ h1 S l fun v m1 H1 x1 S1 r1 => ?_
  refine rl L s1 o1 s2 σ H1 m1 _ h2 S1 (l.ext x1) fun m2 H2 x2 S2 => ?_
  refine ru L s2 o2 s3 σ H2 m2 _ h3 S2 (l.ext (x1.trans x2)) fun m3 H3 x3 S3 => ?_
  have r3 := r1.ext (x2.trans x3)
  have x13 := (x1.trans x2).trans x3
  cases x with
  | tup ds =>
    cases e
    obtain ⟨p, vs, ev, hp, rv⟩ := r3
    have hl := rv.len
    refine .inl ⟨p, vs, ev, SqT.of hp, fun hw => ?_, fun hw q hq => ?_⟩
    · rw [cut_whole (by rw [hl]; exact hw)] at k
      exact k _ m3 H3 x13 S3 ⟨p, vs, rfl, hp, rv⟩
    · exact k _ m3 _ (x13.trans (ext_tup hq)) (S3.laidT hq) ⟨q, _, rfl, upd_same, (rv.cut' o1 o2).ext (ext_tup hq)⟩
  | ft ds =>
    obtain ⟨p, o, vs, ev, hp, hd, rv⟩ := r3
    have hl := rv.len
    simp only [slD] at e
    split at e
    · rename_i hw
      cases e
      unfold wholeB at hw
      simp only [Bool.and_eq_true, decide_eq_true_eq] at hw
      exact .inl ⟨p, vs, ev, .inl (.inr ⟨o, hp⟩), fun _ => k _ m3 H3 x13 S3 ⟨p, o, vs, rfl, hp, hd, rv⟩, fun hn => absurd (by rw [← hl]; exact hw) hn⟩
    · rename_i hw
      cases e
      refine .inl ⟨p, vs, ev, .inl (.inr ⟨o, hp⟩), fun hy => absurd (by unfold wholeB; simp only [Bool.and_eq_true, decide_eq_true_eq]; rw [hl]; exact hy) hw, fun hw q hq => ?_⟩
      exact k _ m3 _ (x13.trans (ext_tup hq)) (S3.laidT hq) ⟨q, _, rfl, upd_same, (rv.cut' o1 o2).ext (ext_tup hq)⟩
  | ref n =>
    simp only [slD] at e
    split at e
    · rename_i ds en
      cases e
      obtain ⟨p, ev, hp⟩ := r3
      obtain ⟨vs, hv, rv⟩ := S3.at hp en
      refine .inr ⟨p, vs, ev, SqL.of hv, fun q hq => ?_⟩
      refine k _ (m3 ++ [q]) _ (x13.trans (ext_new hq)) (S3.laid hq ⟨_, upd_same, (rv.cut' o1 o2).ext (ext_new hq)⟩) ⟨q, rfl, ?_⟩
      rw [← S3.len, List.getElem?_concat_length]
    · cases e
  | _ => cases e
end
end FL

set_option Elab.async false
set_option linter.all false
set_option maxRecDepth 100000
set_option autoImplicit false
namespace FL
open PySem PySem.Spec PyProof.Rows L2

theorem VRs.one {m : List Addr} {H : Hp} {d : D} {vs : List V} (h : VRs m H [d] vs) : ∃ v, vs = [v] ∧ VR m H d v := by
  obtain ⟨v, r, e, h1, h2⟩ := h
  rw [show r = [] from h2] at e
  exact ⟨v, e, h1⟩
theorem VRs.two {m : List Addr} {H : Hp} {c d : D} {vs : List V} (h : VRs m H [c, d] vs) : ∃ v w, vs = [v, w] ∧ VR m H c v ∧ VR m H d w := by
  obtain ⟨v, r, e, h1, h2⟩ := h
  obtain ⟨w, e2, h3⟩ := h2.one
  exact ⟨v, w, by rw [e, e2], h1, h3⟩
/-! ### len -/
def lenD : FF := fun ds s => match ds with
  | [.str z] => if z.length ≤ sizeLine then some (.int z.length, s) else none
  | [x] => match seqOf s x with
    | some xs => some (.int xs.length, s)
    | none => match x with
      | .ref n => match s[n]? with
        | some (.dK kvs) => some (.int kvs.length, s)
        | some (.dT kvs) => some (.int kvs.length, s)
        | _ => none
      | _ => none
  | _ => none
def rLenX (K : PySem.W.Frag) : List V → Hp → VK → Prop := fun xs H Q => (∃ x n, xs = [x] ∧ LenV K x H n ∧ Q (.int n) H) ∨ (∃ a kvs, xs = [V.ref a] ∧ H a = some (.dK kvs) ∧ Q (.int kvs.length) H) ∨ rLenT xs H Q
theorem call_lenX {X : Cx} : CallR X (.builtin "len") (rLenX X.K) := callR_or call_len (callR_or call_lenD call_len_dT)
theorem oc_len (K : PySem.W.Frag) : OC (rLenX K) lenD := by
  intro ds st d st' H m vs Q h S r k
  unfold lenD at h
  split at h
  · rename_i z
    split at h
    · rename_i hz
      cases h
      obtain ⟨v, ev, rv⟩ := r.one
      exact .inl ⟨v, z.length, ev, by rw [show v = _ from rv]; exact ⟨hz, rfl⟩, k _ m H (Ext.refl _ _) S rfl⟩
    · cases h
  · rename_i x _
    obtain ⟨v, ev, rv⟩ := r.one
    split at h
    · rename_i xs hs
      cases h
      obtain ⟨p, ws, ep, hq, rw'⟩ := seqOf_ok (K := K) S hs rv
      refine .inl ⟨v, xs.length, ev, ?_, k _ m H (Ext.refl _ _) S rfl⟩
      rw [ep, rw'.len]
      exact hq.symm.imp (fun q => ⟨ws, q, rfl⟩) fun q => ⟨ws, q, rfl⟩
    · split at h
      · obtain ⟨p, ep, hp⟩ := rv
        split at h
        · rename_i kvs e
          cases h
          obtain ⟨ws, hw, kr⟩ := S.at hp e
          exact .inr (.inl ⟨p, ws, by rw [ev, ep], hw, by rw [← kr.len]; exact k _ m H (Ext.refl _ _) S rfl⟩)
        · rename_i kvs e
          cases h
          obtain ⟨ws, hw, kr⟩ := S.at hp e
          exact .inr (.inr ⟨p, ws, by rw [ev, ep], hw, by rw [← kr.len]; exact k _ m H (Ext.refl _ _) S rfl⟩)
        · cases h
      · cases h
  · cases h

/-! ### all, any, sum -/
def blsD : List D → Option (List Bool)
  | [] => some []
  | .bl b :: r => (blsD r).map (b :: ·)
  | _ :: _ => none
theorem blsD_ok {m : List Addr} {H : Hp} : ∀ {ds : List D} {vs : List V} {bs : List Bool}, blsD ds = some bs → VRs m H ds vs → vs = bs.map V.bl
  | [], vs, bs, h, r => by cases h; exact r
  | .bl b :: t, vs, bs, h, r => by
    obtain ⟨br, h1, h⟩ := Option.map_eq_some_iff.mp h
    subst h
    obtain ⟨v, w, e, r1, r2⟩ := r
    rw [e, show v = _ from r1, blsD_ok h1 r2]
    rfl
  | .non :: _, _, _, h, _ => by cases h
  | .int _ :: _, _, _, h, _ => by cases h
  | .str _ :: _, _, _, h, _ => by cases h
  | .tup _ :: _, _, _, h, _ => by cases h
  | .ft _ :: _, _, _, h, _ => by cases h
  | .ref _ :: _, _, _, h, _ => by cases h
  | .ty _ :: _, _, _, h, _ => by cases h
def intsD : List D → Option (List Int)
  | [] => some []
  | .int b :: r => (intsD r).map (b :: ·)
  | _ :: _ => none
theorem intsD_ok {m : List Addr} {H : Hp} : ∀ {ds : List D} {vs : List V} {bs : List Int}, intsD ds = some bs → VRs m H ds vs → vs = bs.map V.int
  | [], vs, bs, h, r => by cases h; exact r
  | .int b :: t, vs, bs, h, r => by
    obtain ⟨br, h1, h⟩ := Option.map_eq_some_iff.mp h
    subst h
    obtain ⟨v, w, e, r1, r2⟩ := r
    rw [e, show v = _ from r1, intsD_ok h1 r2]
    rfl
  | .non :: _, _, _, h, _ => by cases h
  | .bl _ :: _, _, _, h, _ => by cases h
  | .str _ :: _, _, _, h, _ => by cases h
  | .tup _ :: _, _, _, h, _ => by cases h
  | .ft _ :: _, _, _, h, _ => by cases h
  | .ref _ :: _, _, _, h, _ => by cases h
  | .ty _ :: _, _, _, h, _ => by cases h
def lstD (s : Sto) : D → Option (List D)
  | .ref n => match s[n]? with
    | some (.lst ds) => some ds
    | some (.rol ds) => some ds
    | _ => none
  | _ => none
theorem lstD_ok {K : PySem.W.Frag} {m : List Addr} {H : Hp} {st : Sto} (S : SimO m H st) {x : D} {v : V} {ds : List D} (h : lstD st x = some ds) (r : VR m H x v) : ∃ p vs, v = .ref p ∧ SqL K H p vs ∧ VRs m H ds vs := by
  unfold lstD at h
  split at h
  · obtain ⟨p, ev, hp⟩ := r
    split at h
    · rename_i e
      cases h
      obtain ⟨vs, hv, rv⟩ := S.at hp e
      exact ⟨p, vs, ev, SqL.of hv, rv⟩
    · rename_i e
      cases h
      obtain ⟨vs, hv, rv⟩ := S.at hp e
      exact ⟨p, vs, ev, .inl hv, rv⟩
    · cases h
  · cases h
def onBls (f : List Bool → D) : FF := fun ds s => match ds with
  | [x] => (lstD s x).bind fun xs => (blsD xs).map fun bs => (f bs, s)
  | _ => none
def onInts (f : List Int → D) : FF := fun ds s => match ds with
  | [x] => (lstD s x).bind fun xs => (intsD xs).map fun bs => (f bs, s)
  | _ => none
def allD : FF := onBls fun bs => .bl (bs.all id)
def anyD : FF := onBls fun bs => .bl (bs.any id)
def sumD : FF := onInts fun bs => .int bs.sum
theorem oc_all (K : PySem.W.Frag) : OC (rAll K) allD := by
  intro ds st d st' H m vs Q h S r k
  unfold allD onBls at h
  split at h
  · obtain ⟨xs, h1, h⟩ := Option.bind_eq_some_iff.mp h
    obtain ⟨bs, h2, h⟩ := Option.map_eq_some_iff.mp h
    cases h
    obtain ⟨v, ev, rv⟩ := r.one
    obtain ⟨p, ws, ep, hq, rw'⟩ := lstD_ok (K := K) S h1 rv
    exact ⟨p, bs, by rw [ev, ep], by rw [← blsD_ok h2 rw']; exact hq, k _ m H (Ext.refl _ _) S rfl⟩
  · cases h
theorem oc_any (K : PySem.W.Frag) : OC (rAny K) anyD := by
  intro ds st d st' H m vs Q h S r k
  unfold anyD onBls at h
  split at h
  · obtain ⟨xs, h1, h⟩ := Option.bind_eq_some_iff.mp h
    obtain ⟨bs, h2, h⟩ := Option.map_eq_some_iff.mp h
    cases h
    obtain ⟨v, ev, rv⟩ := r.one
    obtain ⟨p, ws, ep, hq, rw'⟩ := lstD_ok (K := K) S h1 rv
    exact ⟨p, bs, by rw [ev, ep], by rw [← blsD_ok h2 rw']; exact hq, k _ m H (Ext.refl _ _) S rfl⟩
  · cases h
theorem oc_sum (K : PySem.W.Frag) : OC (rSum K) sumD := by
  intro ds st d st' H m vs Q h S r k
  unfold sumD onInts at h
  split at h
  · obtain ⟨xs, h1, h⟩ := Option.bind_eq_some_iff.mp h
    obtain ⟨bs, h2, h⟩ := Option.map_eq_some_iff.mp h
    cases h
    obtain ⟨v, ev, rv⟩ := r.one
    obtain ⟨p, ws, ep, hq, rw'⟩ := lstD_ok (K := K) S h1 rv
    exact ⟨p, bs, by rw [ev, ep], by rw [← intsD_ok h2 rw']; exact hq, k _ m H (Ext.refl _ _) S rfl⟩
  · cases h

/-! ### isinstance -/
def tnD (s : Sto) : D → Option String
  | .non => some "NoneType"
  | .bl _ => some "bool"
  | .int _ => some "int"
  | .str _ => some "str"
  | .tup _ => some "tuple"
  | .ft _ => some "tuple"
  | .ref n => match s[n]? with
    | some (.lst _) => some "list"
    | some (.rol _) => some "list"
    | some (.dK _) => some "dict"
    | some (.dT _) => some "dict"
    | _ => none
  | .ty _ => none
def isiD : FF := fun ds s => match ds with
  | [x, .ty T] => if T ∈ ["int", "bool", "str", "tuple", "list", "dict"] then (tnD s x).map fun t => (.bl (t == T || (t == "bool" && T == "int")), s) else none
  | _ => none
theorem kit_tab : ∀ a ∈ ["NoneType", "bool", "int", "str", "tuple", "list", "dict"], ∀ b ∈ ["int", "bool", "str", "tuple", "list", "dict"], kitB a b = some (a == b || (a == "bool" && b == "int")) := by decide +kernel
theorem tnD_ok {K : PySem.W.Frag} {m : List Addr} {H : Hp} {st : Sto} (S : SimO m H st) {x : D} {v : V} {t : String} (h : tnD st x = some t) (r : VR m H x v) : TyX K H v (.type t) ∧ t ∈ ["NoneType", "bool", "int", "str", "tuple", "list", "dict"] := by
  unfold tnD at h
  split at h
  · cases h; rw [show v = _ from r]; exact ⟨.base .non, by decide⟩
  · cases h; rw [show v = _ from r]; exact ⟨.base (.bl _), by decide⟩
  · cases h; rw [show v = _ from r]; exact ⟨.base (.int _), by decide⟩
  · cases h; rw [show v = _ from r]; exact ⟨.base (.str _), by decide⟩
  · cases h
    obtain ⟨p, vs, e, hp, _⟩ := r
    rw [e]
    exact ⟨.base (.tup hp), by decide⟩
  · cases h
    obtain ⟨p, o, vs, e, hp, _⟩ := r
    rw [e]
    exact ⟨.fTuple hp, by decide⟩
  · obtain ⟨p, e, hp⟩ := r
    rw [e]
    split at h
    · rename_i e
      cases h
      obtain ⟨vs, hv, rv⟩ := S.at hp e
      exact ⟨.base (.lst hv), by decide⟩
    · rename_i e
      cases h
      obtain ⟨vs, hv, rv⟩ := S.at hp e
      rcases hv with hv | ⟨o, hv⟩
      · exact ⟨.base (.lst hv), by decide⟩
      · exact ⟨.base (.frz hv), by decide⟩
    · rename_i e
      cases h
      obtain ⟨vs, hv, rv⟩ := S.at hp e
      exact ⟨.base (.dK hv), by decide⟩
    · rename_i e
      cases h
      obtain ⟨vs, hv, rv⟩ := S.at hp e
      exact ⟨.base (.dT hv), by decide⟩
    · cases h
  · cases h
theorem oc_isi (K : PySem.W.Frag) : OC (rIsi K) isiD := by
  intro ds st d st' H m vs Q h S r k
  unfold isiD at h
  split at h
  · rename_i x T
    split at h
    · rename_i hT
      obtain ⟨t, h1, h⟩ := Option.map_eq_some_iff.mp h
      cases h
      obtain ⟨v, w, e, rv, rw'⟩ := r.two
      obtain ⟨ty, ht⟩ := tnD_ok (K := K) S h1 rv
      exact ⟨v, w, .type t, .type T, _, e, by rw [show w = _ from rw']; exact .ty T, ty, kit_ty (kit_tab t ht T hT), k _ m H (Ext.refl _ _) S rfl⟩
    · cases h
  · cases h
section
variable {X : Cx}
theorem se_bltn {x : Str} {n : String} {pos : Pos} (hg : Gl X x) (hm : X.mg x = none) (hv : bootBuiltins x = some (.type n)) (hn : x ≠ "__name__" := by decide) (hd : (x == ("__debug__" : Str)) = false := by decide) : SE X (.Name x pos) (fC (.ty n)) :=
  ⟨_, pe_bltn (v := .ty n) hg hm hv rfl hn hd, re_C fun _ _ => rfl⟩
end

/-! ### numbers -/
def absD : FF := fun ds s => match ds with | [.int i] => some (.int (if i < 0 then -i else i), s) | _ => none
theorem oc_abs : OC (fun xs H Q => ∃ i, xs = [.int i] ∧ Q (.int (if i < 0 then -i else i)) H) absD := by
  intro ds st d st' H m vs Q h S r k
  unfold absD at h
  split at h
  · cases h
    obtain ⟨v, e, rv⟩ := r.one
    exact ⟨_, by rw [e, show v = _ from rv], k _ m H (Ext.refl _ _) S rfl⟩
  · cases h
def max2D : FF := fun ds s => match ds with | [.int i, .int j] => some (.int (if j > i then j else i), s) | _ => none
def min2D : FF := fun ds s => match ds with | [.int i, .int j] => some (.int (if j < i then j else i), s) | _ => none
theorem oc_max2 : OC (fun xs H Q => ∃ i j, xs = [.int i, .int j] ∧ Q (.int (if j > i then j else i)) H) max2D := by
  intro ds st d st' H m vs Q h S r k
  unfold max2D at h
  split at h
  · cases h
    obtain ⟨v, w, e, rv, rw'⟩ := r.two
    exact ⟨_, _, by rw [e, show v = _ from rv, show w = _ from rw'], k _ m H (Ext.refl _ _) S rfl⟩
  · cases h
theorem oc_min2 : OC (fun xs H Q => ∃ i j, xs = [.int i, .int j] ∧ Q (.int (if j < i then j else i)) H) min2D := by
  intro ds st d st' H m vs Q h S r k
  unfold min2D at h
  split at h
  · cases h
    obtain ⟨v, w, e, rv, rw'⟩ := r.two
    exact ⟨_, _, by rw [e, show v = _ from rv, show w = _ from rw'], k _ m H (Ext.refl _ _) S rfl⟩
  · cases h
def intD : FF := fun ds s => match ds with | [.int i] => some (.int i, s) | [.bl b] => some (.int (if b then 1 else 0), s) | _ => none
theorem oc_int : OC (fun xs H Q => (∃ i, xs = [.int i] ∧ Q (.int i) H) ∨ ∃ k, xs = [.bl k] ∧ Q (.int (if k then 1 else 0)) H) intD := by
  intro ds st d st' H m vs Q h S r k
  unfold intD at h
  split at h
  · cases h
    obtain ⟨v, e, rv⟩ := r.one
    exact .inl ⟨_, by rw [e, show v = _ from rv], k _ m H (Ext.refl _ _) S rfl⟩
  · cases h
    obtain ⟨v, e, rv⟩ := r.one
    exact .inr ⟨_, by rw [e, show v = _ from rv], k _ m H (Ext.refl _ _) S rfl⟩
  · cases h
def strD : FF := fun ds s => match ds with | [.int i] => if i.natAbs.log2 < 1920 then some (.str (toString i), s) else none | _ => none
theorem oc_str : OC (fun xs H Q => ∃ i, xs = [.int i] ∧ i.natAbs.log2 < 1920 ∧ Q (.str (toString i)) H) strD := by
  intro ds st d st' H m vs Q h S r k
  unfold strD at h
  split at h
  · split at h
    · rename_i hz
      cases h
      obtain ⟨v, e, rv⟩ := r.one
      exact ⟨_, by rw [e, show v = _ from rv], hz, k _ m H (Ext.refl _ _) S rfl⟩
    · cases h
  · cases h

/-! ### tuple(list): a tuple whose object is known -/
def tupD : FF := fun ds s => match ds with
  | [.tup xs] => some (.tup xs, s)
  | [.ft xs] => some (.ft xs, s)
  | [x] => (lstD s x).map fun xs => (.ft xs, s)
  | _ => none
def rTupX (K : PySem.W.Frag) : List V → Hp → VK → Prop := fun xs H Q => ∃ p ys, xs = [.ref p] ∧ ((SqL K H p ys ∧ ∀ l o, H l = none → o.dict = none → Q (.ref l) (upd H l (.frz o (.tup ys)))) ∨ (SqT K H p ys ∧ Q (.ref p) H))
theorem call_tupX {X : Cx} : CallR X (.type "tuple") (rTupX X.K) := by
  intro pins s σ H xs us Q I r h
  obtain ⟨p, ys, rfl, q⟩ := h
  rw [Vals.ref1 r]
  rcases q with ⟨hs, q⟩ | ⟨hs, q⟩
  · obtain ⟨its, rv, pl, hz⟩ := I.list hs
    refine call_tuple_list pl.isList (fun h' hk => ?_) (by rw [List.size_toArray, ← rv.length]; exact hz)
    have I1 : Inv X pins σ H { s with heap := h' } := I.kept (t' := s.toks) hk
    have new : (h'.push { cls := .type "tuple", data := .seq its.toArray }).get? h'.objs.size = some { cls := .type "tuple", data := .seq its.toArray } := Heap.get?_push_size _ rfl
    refine ⟨.ref h'.objs.size, upd H h'.objs.size (.frz { cls := .type "tuple", data := .seq its.toArray } (.tup ys)), I1.laid (t' := s.toks) (fun b o e => Heap.get?_push_of_some _ e) (Nat.le_refl _) ?_, rfl, q _ _ (I1.hok.fresh (Nat.le_refl _)) rfl⟩
    exact ⟨new, hz, its, rv, IsTup.new _ _⟩
  · obtain ⟨its, rv, pl, hz⟩ := I.tuple hs
    exact call_tuple_tup pl ⟨.ref p, H, I, rfl, q⟩
theorem oc_tup (K : PySem.W.Frag) : OC (rTupX K) tupD := by
  intro ds st d st' H m vs Q h S r k
  unfold tupD at h
  split at h
  · cases h
    obtain ⟨v, e, p, ws, ep, hp, rw'⟩ := r.one
    exact ⟨p, ws, by rw [e, ep], .inr ⟨SqT.of hp, k _ m H (Ext.refl _ _) S ⟨p, ws, rfl, hp, rw'⟩⟩⟩
  · cases h
    obtain ⟨v, e, p, o, ws, ep, hp, hd, rw'⟩ := r.one
    exact ⟨p, ws, by rw [e, ep], .inr ⟨.inl (.inr ⟨o, hp⟩), k _ m H (Ext.refl _ _) S ⟨p, o, ws, rfl, hp, hd, rw'⟩⟩⟩
  · obtain ⟨xs, h1, h⟩ := Option.map_eq_some_iff.mp h
    cases h
    obtain ⟨v, e, rv⟩ := r.one
    obtain ⟨p, ws, ep, hq, rw'⟩ := lstD_ok (K := K) S h1 rv
    exact ⟨p, ws, by rw [e, ep], .inl ⟨hq, fun l o hl hd => k _ m _ (ext_tup hl) (S.laidT hl) ⟨l, o, ws, rfl, upd_same, hd, rw'.ext (ext_tup hl)⟩⟩⟩
  · cases h

/-! ### ranges -/
def rgD (a b : Int) : List D := (List.range (b - a).toNat).map fun i => D.int (a + (i : Nat))
theorem rgD_VRs {m : List Addr} {H : Hp} (a b : Int) : VRs m H (rgD a b) (rgV a b) := by
  unfold rgD rgV
  generalize List.range (b - a).toNat = l
  induction l with
  | nil => rfl
  | cons c l ih => exact ⟨_, _, rfl, rfl, ih⟩
theorem rgD_len (a b : Int) : (rgD a b).length = (b - a).toNat := by unfold rgD; simp
end FL

set_option Elab.async false
set_option linter.all false
set_option maxRecDepth 100000
set_option autoImplicit false
namespace FL
open PySem PySem.Spec PyProof.Rows L2

mutual
/-- no tuple with a known object -/
def D.nof : D → Bool
  | .tup ds => D.nofs ds
  | .ft _ => false
  | _ => true
def D.nofs : List D → Bool
  | [] => true
  | d :: ds => D.nof d && D.nofs ds
end
mutual
theorem D.P_inj : ∀ {a b : D}, a.pure = true → b.pure = true → a.nof = true → b.nof = true → a.P = b.P → a = b
  | .non, b, _, hb, _, nb, h => by cases b <;> simp_all [D.P, D.pure, D.nof]
  | .bl _, b, _, hb, _, nb, h => by cases b <;> simp_all [D.P, D.pure, D.nof]
  | .int _, b, _, hb, _, nb, h => by cases b <;> simp_all [D.P, D.pure, D.nof]
  | .str _, b, _, hb, _, nb, h => by cases b <;> simp_all [D.P, D.pure, D.nof]
  | .ref _, b, ha, _, _, _, _ => by simp [D.pure] at ha
  | .ty _, b, ha, _, _, _, _ => by simp [D.pure] at ha
  | .ft _, b, _, _, na, _, _ => by simp [D.nof] at na
  | .tup ds, b, ha, hb, na, nb, h => by
    cases b with
    | tup es =>
      simp only [D.P, PyData.tuple.injEq] at h
      simp only [D.pure] at ha hb
      simp only [D.nof] at na nb
      rw [D.Ps_inj ha hb na nb h]
    | _ => simp_all [D.P, D.pure, D.nof]
theorem D.Ps_inj : ∀ {a b : List D}, D.pures a = true → D.pures b = true → D.nofs a = true → D.nofs b = true → D.Ps a = D.Ps b → a = b
  | [], b, _, _, _, _, h => by cases b <;> simp_all [D.Ps]
  | d :: ds, b, ha, hb, na, nb, h => by
    cases b with
    | nil => simp [D.Ps] at h
    | cons e es =>
      simp only [D.Ps, List.cons.injEq] at h
      simp only [D.pures, Bool.and_eq_true] at ha hb
      simp only [D.nofs, Bool.and_eq_true] at na nb
      rw [D.P_inj ha.1 hb.1 na.1 nb.1 h.1, D.Ps_inj ha.2 hb.2 na.2 nb.2 h.2]
end
theorem D.nofs_mem : ∀ {ds : List D}, D.nofs ds = true → ∀ d ∈ ds, d.nof = true
  | [], _, d, h => by simp at h
  | a :: ds, h, d, hd => by
    simp only [D.nofs, Bool.and_eq_true] at h
    rcases List.mem_cons.mp hd with e | e
    · rw [e]; exact h.1
    · exact D.nofs_mem h.2 d e
theorem D.Ps_map : ∀ ds : List D, D.Ps ds = ds.map D.P
  | [] => rfl
  | d :: ds => by rw [D.Ps, D.Ps_map ds]; rfl
theorem D.pures_mem : ∀ {ds : List D}, D.pures ds = true → ∀ d ∈ ds, d.pure = true
  | [], _, d, h => by simp at h
  | a :: ds, h, d, hd => by
    simp only [D.pures, Bool.and_eq_true] at h
    rcases List.mem_cons.mp hd with e | e
    · rw [e]; exact h.1
    · exact D.pures_mem h.2 d e
theorem D.deps_mem : ∀ {ds : List D}, ∀ d ∈ ds, d.dep ≤ D.deps ds
  | [], d, h => by simp at h
  | a :: ds, d, hd => by
    simp only [D.deps]
    rcases List.mem_cons.mp hd with e | e
    · rw [e]; omega
    · have := D.deps_mem d e; omega

/-! ### min, max of a list -/
def minOf (d : D) (ds : List D) : D := ds.foldl (fun a y => if W.dataLt y.P a.P then y else a) d
def maxOf (d : D) (ds : List D) : D := ds.foldl (fun a y => if W.dataLt a.P y.P then y else a) d
theorem minOf_P : ∀ (ds : List D) (d : D), (minOf d ds).P = W.minD d.P (D.Ps ds)
  | [], d => rfl
  | a :: ds, d => by
    unfold minOf W.minD
    rw [D.Ps, List.foldl_cons, List.foldl_cons]
    have := minOf_P ds (if W.dataLt a.P d.P then a else d)
    unfold minOf W.minD at this
    rw [this]
    congr 1
    split <;> rfl
theorem maxOf_P : ∀ (ds : List D) (d : D), (maxOf d ds).P = W.maxD d.P (D.Ps ds)
  | [], d => rfl
  | a :: ds, d => by
    unfold maxOf W.maxD
    rw [D.Ps, List.foldl_cons, List.foldl_cons]
    have := maxOf_P ds (if W.dataLt d.P a.P then a else d)
    unfold maxOf W.maxD at this
    rw [this]
    congr 1
    split <;> rfl
theorem minOf_mem : ∀ (ds : List D) (d : D), minOf d ds ∈ d :: ds
  | [], d => by simp [minOf]
  | a :: ds, d => by
    unfold minOf
    rw [List.foldl_cons]
    have := minOf_mem ds (if W.dataLt a.P d.P then a else d)
    unfold minOf at this
    split at this
    · rename_i h
      rw [if_pos h]
      rcases List.mem_cons.mp this with e | e
      · rw [e]; simp
      · exact List.mem_cons_of_mem _ (List.mem_cons_of_mem _ e)
    · rename_i h
      rw [if_neg h]
      rcases List.mem_cons.mp this with e | e
      · rw [e]; simp
      · exact List.mem_cons_of_mem _ (List.mem_cons_of_mem _ e)
theorem maxOf_mem : ∀ (ds : List D) (d : D), maxOf d ds ∈ d :: ds
  | [], d => by simp [maxOf]
  | a :: ds, d => by
    unfold maxOf
    rw [List.foldl_cons]
    have := maxOf_mem ds (if W.dataLt d.P a.P then a else d)
    unfold maxOf at this
    split at this
    · rename_i h
      rw [if_pos h]
      rcases List.mem_cons.mp this with e | e
      · rw [e]; simp
      · exact List.mem_cons_of_mem _ (List.mem_cons_of_mem _ e)
    · rename_i h
      rw [if_neg h]
      rcases List.mem_cons.mp this with e | e
      · rw [e]; simp
      · exact List.mem_cons_of_mem _ (List.mem_cons_of_mem _ e)
def notNone : PyData → Bool
  | .none => false
  | _ => true
theorem notNone_ne {d : PyData} (h : notNone d = true) : d ≠ .none := by
  intro e
  subst e
  cases h
def alikesB (ps : List PyData) : Bool := ps.all fun x => ps.all (fun y => W.alike x y) && notNone x
theorem alikesB_ok {ps : List PyData} (h : alikesB ps = true) : W.AlikeAll ps ∧ W.AllAlike ps := by
  unfold alikesB at h
  rw [List.all_eq_true] at h
  refine ⟨⟨fun x hx y hy => ?_, fun x hx => ?_⟩, fun x hx y hy => ?_⟩
  · have := h x hx
    simp only [Bool.and_eq_true, List.all_eq_true] at this
    exact this.1 y hy
  · have := h x hx
    simp only [Bool.and_eq_true, List.all_eq_true] at this
    exact notNone_ne this.2
  · have := h x hx
    simp only [Bool.and_eq_true, List.all_eq_true] at this
    exact this.1 y hy
/-- a list of alike data, not empty -/
def alikeL (s : Sto) (x : D) : Option (D × List D) := (lstD s x).bind fun ds => match ds with
  | [] => none
  | d :: r => if (D.pures (d :: r) && alikesB (D.Ps (d :: r)) && decide (D.deps (d :: r) ≤ 60) && D.nofs (d :: r)) = true then some (d, r) else none
def minLD : FF := fun ds s => match ds with
  | [x] => (alikeL s x).map fun p => (minOf p.1 p.2, s)
  | [.int i, .int j] => some (.int (if j < i then j else i), s)
  | _ => none
def maxLD : FF := fun ds s => match ds with
  | [x] => (alikeL s x).map fun p => (maxOf p.1 p.2, s)
  | [.int i, .int j] => some (.int (if j > i then j else i), s)
  | _ => none
def rBest (K : PySem.W.Frag) (best : PyData → List PyData → PyData) : List V → Hp → VK → Prop := fun xs H Q => ∃ a ws p ps, xs = [.ref a] ∧ SqL K H a ws ∧ DpAll K H ws (p :: ps) ∧ W.AlikeAll (p :: ps) ∧ PyData.depthAll (p :: ps) ≤ 60 ∧
  ∀ (i : Nat) (w : V) (q : PyData), ws[i]? = some w → (p :: ps)[i]? = some q → q = best p ps → Q w H
theorem readsAll_get {h : Heap} : ∀ {vs : List Value} {xs : List PyData} {as : List Addr}, ReadsAll h vs xs as → ∀ (i : Nat) (v : Value), vs[i]? = some v → ∃ x bs, xs[i]? = some x ∧ Reads h v x bs
  | _, _, _, .nil, _, _, hv => by simp at hv
  | _, _, _, .cons r rs, 0, v, hv => by
    simp at hv
    subst hv
    exact ⟨_, _, by simp, r⟩
  | _, _, _, .cons r rs, i + 1, v, hv => by
    obtain ⟨x, bs, h1, h2⟩ := readsAll_get rs i v (by simpa using hv)
    exact ⟨x, bs, by simpa using h1, h2⟩
theorem vals_at {vs : List V} {us : List Value} (r : Vals vs us) : ∀ {i : Nat} {u : Value}, us[i]? = some u → ∃ v, vs[i]? = some v ∧ RelV v u := by
  induction r with
  | nil => intro i u e; simp at e
  | @cons v u vs us r0 t ih =>
    intro i z e
    cases i with
    | zero =>
      simp at e
      subst e
      exact ⟨v, by simp, r0⟩
    | succ i =>
      obtain ⟨w, h1, h2⟩ := ih (i := i) (u := z) (by simpa using e)
      exact ⟨w, by simpa using h1, h2⟩
section
variable {X : Cx}
theorem call_minL (hc : X.calm = true) (hu : X.A.units + 64 < cLine) : CallR X (.builtin "min") (rBest X.K W.minD) := by
  intro pins s σ H xs us Q I r h
  obtain ⟨a, ws, p, ps, rfl, hs, hd, hal, hdep, q⟩ := h
  obtain ⟨its, rv, pl, _⟩ := I.list hs
  obtain ⟨as, hr⟩ := Dp.readsAll I (p :: ps) ws its hd rv
  rw [Vals.ref1 r]
  refine W.min_list_data (I.ok.hd hc) pl.isList (by simpa using hr) hal (by omega) fun i v h' tk bs hv rd hk => ?_
  have hv' : its[i]? = some v := by simpa using hv
  obtain ⟨w, hw, rw'⟩ := vals_at rv hv'
  obtain ⟨x, cs, hx, rx⟩ := readsAll_get hr i v hv'
  exact ⟨w, H, I.kept (t' := tk) hk, rw', q i w x hw hx (reads_det (fun b o e _ => hk b o e) rx rd).1.symm⟩
theorem call_maxL (hc : X.calm = true) (hu : X.A.units + 64 < cLine) : CallR X (.builtin "max") (rBest X.K W.maxD) := by
  intro pins s σ H xs us Q I r h
  obtain ⟨a, ws, p, ps, rfl, hs, hd, hal, hdep, q⟩ := h
  obtain ⟨its, rv, pl, _⟩ := I.list hs
  obtain ⟨as, hr⟩ := Dp.readsAll I (p :: ps) ws its hd rv
  rw [Vals.ref1 r]
  refine W.max_list_data (I.ok.hd hc) pl.isList (by simpa using hr) hal (by omega) fun i v h' tk bs hv rd hk => ?_
  have hv' : its[i]? = some v := by simpa using hv
  obtain ⟨w, hw, rw'⟩ := vals_at rv hv'
  obtain ⟨x, cs, hx, rx⟩ := readsAll_get hr i v hv'
  exact ⟨w, H, I.kept (t' := tk) hk, rw', q i w x hw hx (reads_det (fun b o e _ => hk b o e) rx rd).1.symm⟩
end
theorem alikeL_ok {K : PySem.W.Frag} {m : List Addr} {H : Hp} {st : Sto} (S : SimO m H st) {x : D} {v : V} {d : D} {r : List D} (h : alikeL st x = some (d, r)) (rx : VR m H x v) :
    ∃ p vs, v = .ref p ∧ SqL K H p vs ∧ VRs m H (d :: r) vs ∧ DpAll K H vs (D.Ps (d :: r)) ∧ W.AlikeAll (D.Ps (d :: r)) ∧ PyData.depthAll (D.Ps (d :: r)) ≤ 60 ∧ D.pures (d :: r) = true ∧ D.nofs (d :: r) = true := by
  obtain ⟨ds, h1, h⟩ := Option.bind_eq_some_iff.mp h
  obtain ⟨p, vs, e, hq, rv⟩ := lstD_ok (K := K) S h1 rx
  split at h
  · cases h
  · split at h
    · rename_i hc
      cases h
      simp only [Bool.and_eq_true, decide_eq_true_eq] at hc
      exact ⟨p, vs, e, hq, rv, VRs.dp hc.1.1.1 rv, (alikesB_ok hc.1.1.2).1, by rw [D.depPs]; exact hc.1.2, hc.1.1.1, hc.2⟩
    · cases h
theorem VRs.get {m : List Addr} {H : Hp} : ∀ {ds : List D} {vs : List V}, VRs m H ds vs → ∀ {i : Nat} {v : V}, vs[i]? = some v → ∃ d, ds[i]? = some d ∧ VR m H d v
  | [], vs, h, i, v, e => by rw [show vs = [] from h] at e; simp at e
  | c :: ds, _, h, i, v, e => by
    obtain ⟨w, r, ev, h1, h2⟩ := h
    rw [ev] at e
    cases i with
    | zero =>
      simp at e
      rw [← e]
      exact ⟨c, by simp, h1⟩
    | succ i =>
      obtain ⟨d, hd, rd⟩ := VRs.get h2 (i := i) (v := v) (by simpa using e)
      exact ⟨d, by simpa using hd, rd⟩
theorem oc_best {K : PySem.W.Frag} {best : PyData → List PyData → PyData} {bestD : D → List D → D} (hb : ∀ ds d, (bestD d ds).P = best d.P (D.Ps ds)) (hm : ∀ ds d, bestD d ds ∈ d :: ds) :
    OC (rBest K best) (fun ds s => match ds with
      | [x] => (alikeL s x).map fun p => (bestD p.1 p.2, s)
      | _ => none) := by
  intro ds st d st' H m vs Q h S r k
  simp only at h
  split at h
  · obtain ⟨⟨e, es⟩, h1, h⟩ := Option.map_eq_some_iff.mp h
    cases h
    obtain ⟨v, ev, rv⟩ := r.one
    obtain ⟨p, ws, ep, hq, rw', dp, al, dd, pu, nf⟩ := alikeL_ok (K := K) S h1 rv
    refine ⟨p, ws, e.P, D.Ps es, by rw [ev, ep], hq, dp, al, dd, fun i w q hw hqq eq => ?_⟩
    obtain ⟨c, hc, rc⟩ := rw'.get hw
    have e1 : q = c.P := by
      have : (D.Ps (e :: es))[i]? = some q := hqq
      rw [D.Ps_map, List.getElem?_map, hc] at this
      exact (Option.some.inj this).symm
    have e2 : c = bestD e es := by
      refine D.P_inj (D.pures_mem pu c (List.mem_of_getElem? hc)) (D.pures_mem pu _ (hm es e)) (D.nofs_mem nf c (List.mem_of_getElem? hc)) (D.nofs_mem nf _ (hm es e)) ?_
      rw [← e1, eq, hb]
    rw [← e2] at k
    exact k w m H (Ext.refl _ _) S rc
  · cases h
def rMinX (K : PySem.W.Frag) : List V → Hp → VK → Prop := fun xs H Q => rBest K W.minD xs H Q ∨ ∃ i j, xs = [.int i, .int j] ∧ Q (.int (if j < i then j else i)) H
def rMaxX (K : PySem.W.Frag) : List V → Hp → VK → Prop := fun xs H Q => rBest K W.maxD xs H Q ∨ ∃ i j, xs = [.int i, .int j] ∧ Q (.int (if j > i then j else i)) H
theorem call_minX {X : Cx} (hc : X.calm = true) (hu : X.A.units + 64 < cLine) : CallR X (.builtin "min") (rMinX X.K) := callR_or (call_minL hc hu) (call_min2 hc)
theorem call_maxX {X : Cx} (hc : X.calm = true) (hu : X.A.units + 64 < cLine) : CallR X (.builtin "max") (rMaxX X.K) := callR_or (call_maxL hc hu) (call_max2 hc)
theorem oc_min (K : PySem.W.Frag) : OC (rMinX K) minLD := by
  intro ds st d st' H m vs Q h S r k
  unfold minLD at h
  split at h
  · rename_i x
    exact .inl (oc_best (fun ds d => minOf_P ds d) minOf_mem [x] st d st' H m vs Q h S r k)
  · rename_i i j
    exact .inr (oc_min2 [.int i, .int j] st d st' H m vs Q h S r k)
  · cases h
theorem oc_max (K : PySem.W.Frag) : OC (rMaxX K) maxLD := by
  intro ds st d st' H m vs Q h S r k
  unfold maxLD at h
  split at h
  · rename_i x
    exact .inl (oc_best (fun ds d => maxOf_P ds d) maxOf_mem [x] st d st' H m vs Q h S r k)
  · rename_i i j
    exact .inr (oc_max2 [.int i, .int j] st d st' H m vs Q h S r k)
  · cases h

/-! ### repr -/
def reprD : FF := fun ds s => match ds with
  | [.int i] => if i.natAbs.log2 < 1920 then some (.str (toString i), s) else none
  | [.tup xs] => if (D.pures xs && (D.P (.tup xs)).showable && decide (D.deps xs ≤ 59) && decide ((D.P (.tup xs)).shown.length ≤ sizeLine)) = true then some (.str (D.P (.tup xs)).shown, s) else none
  | _ => none
def rReprT (K : PySem.W.Frag) : List V → Hp → VK → Prop := fun xs H Q => ∃ a d, xs = [.ref a] ∧ Dp K H (.ref a) d ∧ d.showable = true ∧ d.hasDict = false ∧ d.depth ≤ 60 ∧ d.shown.length ≤ sizeLine ∧ Q (.str d.shown) H
theorem call_reprT {X : Cx} (hg : X.A.guards = some []) (hu : X.A.units + 64 < cLine) : CallR X (.builtin "repr") (rReprT X.K) := by
  intro pins s σ H xs us Q I r h
  obtain ⟨a, d, rfl, hd, hs, hn, hdep, hz, q⟩ := h
  have e := Vals.ref1 r
  obtain ⟨as, rd⟩ := Dp.reads I d (.ref a) (.ref a) hd rfl
  rw [e]
  exact repr_of_reads' rd hs (PyData.noDict_hsm hn) hg (by omega) (fun _ _ e => e) (fun h' u tk hk => ⟨.str _, H, I.kept (t' := tk) hk, ⟨_, rfl⟩, q⟩) hz
mutual
theorem D.noDict : ∀ d : D, (D.P d).hasDict = false
  | .non => rfl
  | .bl _ => rfl
  | .int _ => rfl
  | .str _ => rfl
  | .ref _ => rfl
  | .ty _ => rfl
  | .tup ds => by simp only [D.P, PyData.hasDict]; exact D.noDicts ds
  | .ft ds => by simp only [D.P, PyData.hasDict]; exact D.noDicts ds
theorem D.noDicts : ∀ ds : List D, PyData.hasDictAll (D.Ps ds) = false
  | [] => rfl
  | d :: ds => by simp only [D.Ps, PyData.hasDictAll, D.noDict d, D.noDicts ds, Bool.or_self]
end
def rReprX (K : PySem.W.Frag) : List V → Hp → VK → Prop := fun xs H Q => (∃ i, xs = [.int i] ∧ i.natAbs.log2 < 1920 ∧ Q (.str (toString i)) H) ∨ rReprT K xs H Q
theorem call_reprX {X : Cx} (hg : X.A.guards = some []) (hu : X.A.units + 64 < cLine) : CallR X (.builtin "repr") (rReprX X.K) := callR_or SkE.call_repr_int (call_reprT hg hu)
theorem oc_repr (K : PySem.W.Frag) : OC (rReprX K) reprD := by
  intro ds st d st' H m vs Q h S r k
  unfold reprD at h
  split at h
  · split at h
    · rename_i hz
      cases h
      obtain ⟨v, e, rv⟩ := r.one
      exact .inl ⟨_, by rw [e, show v = _ from rv], hz, k _ m H (Ext.refl _ _) S rfl⟩
    · cases h
  · split at h
    · rename_i xs hc
      cases h
      simp only [Bool.and_eq_true, decide_eq_true_eq] at hc
      obtain ⟨⟨⟨h1, h2⟩, h3⟩, h4⟩ := hc
      obtain ⟨v, e, rv⟩ := r.one
      obtain ⟨a, ws, ea, ha, rw'⟩ := rv
      refine .inr ⟨a, _, by rw [e, ea], VR.dp (K := K) (d := .tup xs) (by simpa [D.pure] using h1) ⟨a, ws, rfl, ha, rw'⟩, h2, D.noDict _, ?_, h4, k _ m H (Ext.refl _ _) S rfl⟩
      rw [D.depP, D.dep]
      omega
    · cases h
  · cases h
end FL

set_option Elab.async false
set_option linter.all false
set_option maxRecDepth 100000
set_option autoImplicit false
namespace FL
open PySem PySem.Spec PyProof.Rows L2

/-! ## a dict's keys and values -/
def dkeysD : O → Option (List D)
  | .dK kvs => some (kvs.map fun kv => kD kv.1)
  | .dT kvs => some (kvs.map fun kv => .tup (kv.1.map kD))
  | _ => none
def dvalsD : O → Option (List D)
  | .dK kvs => some (kvs.map (·.2))
  | .dT kvs => some (kvs.map (·.2))
  | _ => none
theorem vals_of_each : ∀ {us : List Value} {vs : List V}, us.length = vs.length → (∀ (i : Nat) (u : Value) (v : V), us[i]? = some u → vs[i]? = some v → RelV v u) → Vals vs us
  | [], [], _, _ => .nil
  | u :: us, v :: vs, hl, h => .cons (h 0 u v rfl rfl) (vals_of_each (by simpa using hl) fun i u' v' e1 e2 => h (i + 1) u' v' (by simpa using e1) (by simpa using e2))
  | [], _ :: _, hl, _ => by simp at hl
  | _ :: _, [], hl, _ => by simp at hl
theorem KR.vals {κ : Type} {m : List Addr} {H : Hp} : ∀ {kvs : List (κ × D)} {ws : List (κ × V)}, KR m H kvs ws → VRs m H (kvs.map (·.2)) (ws.map (·.2))
  | _, _, .nil => rfl
  | _, _, .cons z t => ⟨_, _, rfl, z.2, KR.vals t⟩
theorem KR.keysK {m : List Addr} {H : Hp} : ∀ {kvs : List (Key × D)} {ws : List (Key × V)}, KR m H kvs ws → VRs m H (kvs.map fun kv => kD kv.1) (ws.map fun kv => kV kv.1)
  | _, _, .nil => rfl
  | _, _, .cons (a := p) (b := q) z t => ⟨kV q.1, _, rfl, by show VR m H (kD p.1) _; rw [show p.1 = q.1 from z.1]; exact kD_VR q.1, KR.keysK t⟩
theorem KT.keysT {m : List Addr} {H : Hp} : ∀ {kvs : List (List Key × D)} {ws : List (List Key × V)} {xs : List (List Key × Addr × Value)}, KR m H kvs ws → KT H ws xs → VRs m H (kvs.map fun kv => D.tup (kv.1.map kD)) (xs.map fun x => V.ref x.2.1)
  | _, _, _, .nil, .nil => rfl
  | _, _, _, .cons (a := p) (b := q) z t, .cons (b := y) z' t' => ⟨.ref y.2.1, _, rfl, ⟨y.2.1, q.1.map kV, rfl, z'.2.1, by rw [show p.1 = q.1 from z.1]; exact kDs_VRs q.1⟩, KT.keysT t t'⟩
theorem KT.valsT {H : Hp} : ∀ {ws : List (List Key × V)} {xs : List (List Key × Addr × Value)}, KT H ws xs → Vals (ws.map (·.2)) (xs.map fun x => x.2.2)
  | _, _, .nil => .nil
  | _, _, .cons z t => .cons z.2.2 (KT.valsT t)
theorem KT.refs : ∀ (xs : List (List Key × Addr × Value)), Vals (xs.map fun x => V.ref x.2.1) (xs.map fun x => Value.ref x.2.1)
  | [] => .nil
  | x :: xs => .cons rfl (KT.refs xs)
theorem paired_get {α β : Type} {F : α → β → Prop} {l : List α} {r : List β} (h : Paired F l r) : ∀ {i : Nat} {a : α} {b : β}, l[i]? = some a → r[i]? = some b → F a b := by
  induction h with
  | nil => intro i a b e; simp at e
  | cons z t ih =>
    intro i a b e1 e2
    cases i with
    | zero =>
      simp at e1 e2
      subst e1
      subst e2
      exact z
    | succ i => exact ih (by simpa using e1) (by simpa using e2)
/-- a dict as it stands -/
structure DictAs (m : List Addr) (H : Hp) (h : Heap) (p : Addr) (ks vs : List D) (es : Array DictEntry) (ep : Nat) : Prop where
  raw : h.DictRaw p es ep
  lo : (p == sysModules) = false
  size : es.size ≤ sizeLine
  keys : ∃ kv, Vals kv (es.toList.map (·.key)) ∧ VRs m H ks kv
  vals : ∃ vv, Vals vv (es.toList.map (·.val)) ∧ VRs m H vs vv
theorem keyIs_rel {k : Key} {u : Value} (h : keyIs k u = true) : RelV (kV k) u := by
  rcases keyIs_shape h with ⟨i, t, rfl, rfl⟩ | ⟨x, t, rfl, rfl⟩
  · exact ⟨t, rfl⟩
  · exact ⟨t, rfl⟩
theorem dict_as {X : Cx} {pins : List (Addr × Obj)} {σ : L2.St} {H : Hp} {s : Shared} {m : List Addr} {st : Sto} (I : Inv X pins σ H s) (S : SimO m H st) {n : Nat} {p : Addr} {o : O} {ks vs : List D} (hp : m[n]? = some p) (ho : st[n]? = some o) (hk : dkeysD o = some ks) (hv : dvalsD o = some vs) :
    ∃ es ep, DictAs m H s.heap p ks vs es ep := by
  have q := S.at hp ho
  cases o with
  | dK kvs =>
    cases hk
    cases hv
    obtain ⟨ws, hw, kr⟩ := q
    obtain ⟨z, lo, xs, rel, dd⟩ := dk_of I.hok hw
    obtain ⟨es, ep, raw, hsz, hat⟩ := dd.raw
    have hl : ws.length = xs.length := rel.length
    refine ⟨es, ep, raw, lo, by rw [hsz, ← hl]; exact z, ⟨_, vals_of_each (by simp [hsz, hl]) fun i u v e1 e2 => ?_, kr.keysK⟩, ⟨_, vals_of_each (by simp [hsz, hl]) fun i u v e1 e2 => ?_, kr.vals⟩⟩
    all_goals
      rw [List.getElem?_map] at e1 e2
      obtain ⟨a, ha, e1⟩ := Option.map_eq_some_iff.mp e1
      obtain ⟨b, hb, e2⟩ := Option.map_eq_some_iff.mp e2
      subst e1
      subst e2
      rw [Array.getElem?_toList] at ha
      obtain ⟨hi, ea⟩ := Array.getElem?_eq_some_iff.mp ha
      obtain ⟨c, hc⟩ : ∃ c, xs[i]? = some c := ⟨xs[i]'(by rw [← hsz]; exact hi), List.getElem?_eq_getElem _⟩
      obtain ⟨h1, h2⟩ := hat i hi c.1 c.2 hc
      rw [ea] at h1 h2
      have rr := paired_get rel hb hc
    · rw [rr.1]
      exact keyIs_rel h1
    · rw [h2]
      exact rr.2
  | dT kvs =>
    cases hk
    cases hv
    obtain ⟨ws, hw, kr⟩ := q
    obtain ⟨z, lo, xs, rel, dd⟩ := dt_of I.hok hw
    obtain ⟨od, es, ep, h1, h2, h3, h4, _, _⟩ := dd
    have hl : ws.length = xs.length := rel.length
    have hsz : es.size = xs.length := by rw [← Array.length_toList, h4, List.length_map]
    refine ⟨es, ep, ⟨od, h1, h2, h3⟩, lo, by rw [hsz, ← hl]; exact z, ⟨_, ?_, KT.keysT kr rel⟩, ⟨_, ?_, kr.vals⟩⟩
    · rw [h4, List.map_map]
      exact KT.refs xs
    · rw [h4, List.map_map]
      exact KT.valsT rel
  | _ => cases hk

/-! ## sorted -/
def sortDs (ds : List D) : List D := ds.mergeSort (W.dataLe false D.P)
def sortableB (ds : List D) : Bool := ds.all (fun d => match d with | .tup (_ :: _) => true | _ => false) || ds.all (fun d => match d with | .tup _ => false | .ft _ => false | .non => false | .ref _ => false | .ty _ => false | _ => true)
theorem sortableB_ok {ds : List D} (h : sortableB ds = true) : W.Sortable (ds.map D.P) := by
  unfold sortableB at h
  rw [Bool.or_eq_true, List.all_eq_true, List.all_eq_true] at h
  rcases h with h | h
  · refine .inl fun p hp => ?_
    obtain ⟨d, hd, rfl⟩ := List.mem_map.mp hp
    have := h d hd
    split at this
    · exact ⟨_, _, rfl⟩
    · cases this
  · refine .inr fun p hp => ?_
    obtain ⟨d, hd, rfl⟩ := List.mem_map.mp hp
    have := h d hd
    cases d <;> simp_all [D.P]
def sortOk (ds : List D) : Bool := D.pures ds && alikesB (D.Ps ds) && sortableB ds && decide (D.deps ds ≤ 60) && decide (ds.length ≤ sizeLine)
mutual
theorem reads_atom {h : Heap} : ∀ (d : D) (v : Value) (as : List Addr), Reads h v d.P as → as = []
  | .non, v, as, r => by simp only [D.P] at r; cases r; rfl
  | .bl _, v, as, r => by simp only [D.P] at r; cases r; rfl
  | .int _, v, as, r => by simp only [D.P] at r; cases r; rfl
  | .str _, v, as, r => by simp only [D.P] at r; cases r; rfl
  | .ref _, v, as, r => by simp only [D.P] at r; cases r; rfl
  | .ty _, v, as, r => by simp only [D.P] at r; cases r; rfl
  | .tup ds, v, as, r => by
    simp only [D.P] at r
    cases r with
    | tuple h1 h2 h3 h4 => exact readsAll_atom ds _ _ h4
  | .ft ds, v, as, r => by
    simp only [D.P] at r
    cases r with
    | tuple h1 h2 h3 h4 => exact readsAll_atom ds _ _ h4
theorem readsAll_atom {h : Heap} : ∀ (ds : List D) (vs : List Value) (as : List Addr), ReadsAll h vs (D.Ps ds) as → as = []
  | [], vs, as, r => by simp only [D.Ps] at r; cases r; rfl
  | d :: ds, vs, as, r => by
    simp only [D.Ps] at r
    cases r with
    | cons h1 h2 => rw [reads_atom d _ _ h1, readsAll_atom ds _ _ h2]; rfl
end
/-- a value stands for d -/
def Stands (m : List Addr) (H : Hp) (u : Value) (d : D) : Prop := ∃ v, RelV v u ∧ VR m H d v
theorem each_stands {m : List Addr} {H : Hp} : ∀ {ds : List D} {vs : List V} {us : List Value}, VRs m H ds vs → Vals vs us → W.EachIs (Stands m H) us ds
  | [], _, _, h, r => by
    rw [show _ = [] from h] at r
    cases r
    exact .nil
  | d :: ds, _, _, h, r => by
    obtain ⟨v, t, e, h1, h2⟩ := h
    rw [e] at r
    cases r with
    | cons r1 r2 => exact .cons ⟨v, r1, h1⟩ (each_stands h2 r2)
theorem stands_each {m : List Addr} {H : Hp} {us : List Value} {ds : List D} (h : W.EachIs (Stands m H) us ds) : ∃ vs, Vals vs us ∧ VRs m H ds vs := by
  induction h with
  | nil => exact ⟨[], .nil, rfl⟩
  | cons z t ih =>
    obtain ⟨v, r, rv⟩ := z
    obtain ⟨vs, h1, h2⟩ := ih
    exact ⟨v :: vs, .cons r h1, v, vs, rfl, rv, h2⟩
theorem each_reads {X : Cx} {pins : List (Addr × Obj)} {σ : L2.St} {H : Hp} {s : Shared} (I : Inv X pins σ H s) {m : List Addr} (a : Addr) : ∀ {ds : List D} {us : List Value}, D.pures ds = true → W.EachIs (Stands m H) us ds →
    W.EachIs (fun v b => ∃ as, Reads s.heap v (D.P b) as ∧ a ∉ as) us ds
  | [], _, _, h => by cases h; exact .nil
  | d :: ds, _, hp, h => by
    cases h with
    | cons z t =>
      obtain ⟨v, r, rv⟩ := z
      simp only [D.pures, Bool.and_eq_true] at hp
      obtain ⟨as, rd⟩ := Dp.reads I d.P v _ (VR.dp hp.1 rv) r
      exact .cons ⟨as, rd, by rw [reads_atom d _ _ rd]; simp⟩ (each_reads I a hp.2 t)
theorem each_len {α β : Type} {R : α → β → Prop} {as : List α} {bs : List β} (h : W.EachIs R as bs) : as.length = bs.length := by
  induction h with
  | nil => rfl
  | cons _ _ ih => simp [ih]
theorem each_mono {α β : Type} {R R' : α → β → Prop} {as : List α} {bs : List β} (h : W.EachIs R as bs) (f : ∀ a b, R a b → R' a b) : W.EachIs R' as bs := by
  induction h with
  | nil => exact .nil
  | cons z _ ih => exact .cons (f _ _ z) ih
section
variable {X : Cx} {pins : List (Addr × Obj)} {σ : L2.St} {H : Hp} {s : Shared}
/-- sorted of a list -/
def rSortL (K : PySem.W.Frag) : List V → Hp → VK → Prop := fun xs H Q => ∃ (a : Addr) (m : List Addr) (ds : List D) (ws : List V), xs = [.ref a] ∧ SqL K H a ws ∧ VRs m H ds ws ∧ sortOk ds = true ∧ ∀ us p, VRs m H (sortDs ds) us → H p = none → Q (.ref p) (upd H p (.lst us))
theorem call_sortL (hu : X.A.units + 64 < cLine) : CallR X (.builtin "sorted") (rSortL X.K) := by
  intro pins s σ H xs us Q I r h
  obtain ⟨a, m, ds, ws, rfl, hs, rv, ok, q⟩ := h
  obtain ⟨its, rl, pl, hz⟩ := I.list hs
  unfold sortOk at ok
  simp only [Bool.and_eq_true, decide_eq_true_eq] at ok
  obtain ⟨⟨⟨⟨o1, o2⟩, o3⟩, o4⟩, o5⟩ := ok
  have ea := each_stands rv rl
  rw [Vals.ref1 r]
  refine W.sorted_data (R := Stands m H) (enc := D.P) pl.isList ea (each_mono (each_reads I 0 o1 ea) fun v b ⟨as, h1, _⟩ => ⟨as, h1⟩) (by rw [← D.Ps_map]; exact (alikesB_ok o2).2) (sortableB_ok o3) o5
    (fun b hb => ?_) fun out hl eo => ?_
  · rw [D.depP]
    have := D.deps_mem b hb
    omega
  · obtain ⟨vo, h1, h2⟩ := stands_each eo
    obtain ⟨e, he⟩ := PyProof.Rows.sortedAll_at s.heap its out.toArray
    have lo : vo.length ≤ sizeLine := by rw [h1.length, hl]; exact o5
    exact ⟨.ref (s.heap.objs.size + 1), upd H (s.heap.objs.size + 1) (.lst vo), I.laid (t' := s.toks) (fun b u e => PyProof.Rows.sortedAll_old e) (Nat.le_succ _)
      (show ObjOk X.prog X.w _ _ _ (.lst vo) from ⟨lo, out, e, h1, he⟩), rfl, q vo _ h2 (I.hok.fresh (Nat.le_succ _))⟩
/-- sorted of a dict: its keys -/
def rSortDict (X : Cx) : List V → Hp → VK → Prop := fun xs H Q => ∃ (a : Addr) (m : List Addr) (st : Sto) (n : Nat) (o : O) (ds vs : List D), xs = [.ref a] ∧ SimO m H st ∧ m[n]? = some a ∧ st[n]? = some o ∧ dkeysD o = some ds ∧ dvalsD o = some vs ∧ sortOk ds = true ∧
  ∀ us p, VRs m H (sortDs ds) us → H p = none → Q (.ref p) (upd H p (.lst us))
theorem call_sortDict (hc : X.calm = true) (hu : X.A.units + 64 < cLine) : CallR X (.builtin "sorted") (rSortDict X) := by
  intro pins s σ H xs us Q I r h
  obtain ⟨a, m, st, n, o, ds, dv, rfl, S, hp, ho, hk, hv, ok, q⟩ := h
  obtain ⟨es, ep, A⟩ := dict_as I S hp ho hk hv
  obtain ⟨kv, kr, km⟩ := A.keys
  unfold sortOk at ok
  simp only [Bool.and_eq_true, decide_eq_true_eq] at ok
  obtain ⟨⟨⟨⟨o1, o2⟩, o3⟩, o4⟩, o5⟩ := ok
  rw [Vals.ref1 r]
  refine Calls.call_function_entry PyProof.Rows.kind_sorted PyProof.Rows.plain_sorted PyProof.Rows.entry_sorted (PyProof.Rows.args_sorted1 _) ?_
  unfold Builtin.«sorted»
  refine wpAny_bind (m := checkCount "sorted" 1 1 _) (wpAny_pure ?_)
  refine wpAny_bind (W.kdu_collect (A := X.A.in1) (KdlSrc.rawDict (es := es) (ep := ep) A.lo) (I.ok.hd hc) A.raw A.size fun h' tk acc hk' hacc => ?_)
  have ek : acc.toList = es.toList.map (·.key) := by
    refine List.ext_getElem? fun i => ?_
    rw [List.getElem?_map, Array.getElem?_toList, Array.getElem?_toList]
    cases e : acc[i]? with
    | none =>
      have : es.size ≤ i := by rw [← hacc.1]; simpa using e
      rw [Array.getElem?_eq_none this]
      rfl
    | some v =>
      obtain ⟨hi, ev⟩ := hacc.2 i v e
      rw [Array.getElem?_eq_getElem hi, ev]
      rfl
  have hal : acc.toList.length ≤ sizeLine := by rw [Array.length_toList, hacc.1]; exact A.size
  have I1 : Inv X pins σ H { s with heap := h', toks := tk } := I.kept hk'
  have rl : Vals kv acc.toList := by rw [ek]; exact kr
  refine wpAny_bind (wpAny_newList ?_ hal)
  have hoL : (h'.push (seqObj "list" acc.toList.toArray 0)).get? h'.objs.size = some (seqObj "list" acc.toList.toArray 0) := Heap.get?_push_size _ rfl
  have I2 : Inv X pins σ H { s with heap := h'.push (seqObj "list" acc.toList.toArray 0), toks := tk } := I1.kept (t' := tk) fun b o e => Heap.get?_push_of_some _ e
  have ea := each_stands km rl
  show wpAny _ _ _ _ _ { s with heap := h'.push (seqObj "list" acc.toList.toArray 0), toks := tk }
  refine wpAny_bind (wpAny_holding (W.list_sort_data (A := X.A.in1) (R := Stands m H) (enc := D.P) hoL ea (each_reads I2 _ o1 ea) (by rw [← D.Ps_map]; exact (alikesB_ok o2).2) (sortableB_ok o3) o5 (fun b hb => ?_) fun out hl eo => ?_))
  · rw [D.depP]
    have := D.deps_mem b hb
    show X.A.units + 1 + 1 + _ < cLine
    omega
  · obtain ⟨vo, h1, h2⟩ := stands_each eo
    obtain ⟨e', he'⟩ := PyProof.Rows.sortedHeap_at (vs := acc.toList) (out := out.toArray) hoL
    have lo : vo.length ≤ sizeLine := by rw [h1.length, hl]; exact o5
    refine wpAny_pure ⟨_, rfl, .ref h'.objs.size, upd H h'.objs.size (.lst vo), I1.laid (t' := tk) (fun b u e => ?_) (Nat.le_refl _) (show ObjOk X.prog X.w _ _ _ (.lst vo) from ⟨lo, out, e', h1, he'⟩), rfl, q vo _ h2 (I1.hok.fresh (Nat.le_refl _))⟩
    have hb : b < h'.objs.size := Heap.lt_size e
    rw [PyProof.Rows.sortedHeap_old (Nat.ne_of_lt hb) (by rw [size_push']; exact Nat.lt_succ_of_lt hb)]
    exact Heap.get?_push_of_some _ e
end
def sortD : FF := fun ds s => match ds with
  | [.ref n] => match s[n]? with
    | none => none
    | some o => match dkeysD o with
      | some ks => if sortOk ks = true then some (.ref s.length, s ++ [.lst (sortDs ks)]) else none
      | none => (lstD s (.ref n)).bind fun xs => if sortOk xs = true then some (.ref s.length, s ++ [.lst (sortDs xs)]) else none
  | _ => none
def rSortX (X : Cx) : List V → Hp → VK → Prop := fun xs H Q => rSortL X.K xs H Q ∨ rSortDict X xs H Q
theorem call_sortX {X : Cx} (hc : X.calm = true) (hu : X.A.units + 64 < cLine) : CallR X (.builtin "sorted") (rSortX X) := callR_or (call_sortL hu) (call_sortDict hc hu)
theorem dvals_of_keys {o : O} {ks : List D} (h : dkeysD o = some ks) : ∃ vs, dvalsD o = some vs := by
  cases o <;> first | exact ⟨_, rfl⟩ | cases h
theorem oc_sort (X : Cx) : OC (rSortX X) sortD := by
  intro ds st d st' H m vs Q h S r k
  unfold sortD at h
  split at h
  · rename_i n
    obtain ⟨v, ev, rv⟩ := r.one
    have rv0 := rv
    obtain ⟨p, ep, hp⟩ := rv
    have new : ∀ {xs : List D} {us : List V} {q : Addr}, d = .ref st.length → st' = st ++ [.lst xs] → VRs m H xs us → H q = none → Q (.ref q) (upd H q (.lst us)) := by
      intro xs us q e1 e2 hr hq
      subst e1
      subst e2
      refine k _ (m ++ [q]) _ (ext_new hq) (S.laid hq ⟨us, upd_same, hr.ext (ext_new hq)⟩) ⟨q, rfl, ?_⟩
      rw [← S.len, List.getElem?_concat_length]
    split at h
    · cases h
    · rename_i o ho
      split at h
      · rename_i ks hk
        split at h
        · rename_i ok
          cases h
          obtain ⟨dv, hv⟩ := dvals_of_keys hk
          exact .inr ⟨p, m, st, n, o, ks, dv, by rw [ev, ep], S, hp, ho, hk, hv, ok, fun us q h1 h2 => new rfl rfl h1 h2⟩
        · cases h
      · obtain ⟨xs, h1, h⟩ := Option.bind_eq_some_iff.mp h
        split at h
        · rename_i ok
          cases h
          obtain ⟨p2, ws, e2, hq, rw'⟩ := lstD_ok (K := X.K) S h1 rv0
          exact .inl ⟨p2, m, xs, ws, by rw [ev, e2], hq, rw', ok, fun us q h1 h2 => new rfl rfl h1 h2⟩
        · cases h
  · cases h
end FL

set_option Elab.async false
set_option linter.all false
set_option maxRecDepth 100000
set_option autoImplicit false
namespace FL
open PySem PySem.Spec PyProof.Rows L2

/-! ## list(d.values()) -/
def fLVals (f : FE) : FE := fun L s => (f L s).bind fun q => match q.1 with
  | .ref n => (q.2[n]?).bind fun o => (dvalsD o).map fun vs => (.ref q.2.length, q.2 ++ [.lst vs])
  | _ => none
def tLVals (X : Cx) (te : TE) : TE := fun σ H Q => te σ H fun x H1 => ∃ (a : Addr) (m : List Addr) (st : Sto) (n : Nat) (o : O) (ks vs : List D), x = .ref a ∧ SimO m H1 st ∧ m[n]? = some a ∧ st[n]? = some o ∧ dkeysD o = some ks ∧ dvalsD o = some vs ∧
  ∀ us p, VRs m H1 vs us → H1 p = none → Q (.ref p) (upd H1 p (.lst us))
section
variable {X : Cx} {e : Expr} {te : TE} {apos cpos pos p : Pos}
theorem pe_lVals (hc : X.calm = true) (hgl : Gl X "list") (hml : X.mg "list" = none) (he : PE X e te) (hbase : attributeBase e "values" X.env (eval e X.env) = eval e X.env := by rfl) (hline : (apos.endLine == cpos.line) = true := by rfl)
    (na : starEach [Expr.Call (.Attribute e "values" apos) [] [] cpos] X.env = (false, eval (Expr.Call (.Attribute e "values" apos) [] [] cpos) X.env) :: starEach [] X.env := by rfl) :
    PE X (.Call (.Name "list" p) [.Call (.Attribute e "values" apos) [] [] cpos] [] pos) (tLVals X te) := by
  refine ⟨fun pins s σ H Q I h => ?_⟩
  refine Call_ (ld_blt I hgl hml boot_list (PyProof.Rows.callWith_type1 (PyProof.Rows.args_cons ?_ na) na))
  refine wpAny_Call_method (T := "dict") (id := "dict.values") hbase rfl hline F.plainAttrs_dict F.slot_dict_values F.type_dict_values (thn (he.run pins s σ H _ I h) fun u s1 ⟨x, H1, I1, rx, q⟩ => ?_)
  obtain ⟨a, m, st, n, o, ks, vs, ex, S, hp, ho, hk, hv, q⟩ := q
  subst ex
  obtain rfl : u = Value.ref a := rx
  obtain ⟨es, ep, A⟩ := dict_as I1 S hp ho hk hv
  obtain ⟨vv, vr, vm⟩ := A.vals
  have ty : s1.TypeIs (.ref a) "dict" := A.raw.typeIs
  obtain ⟨od, hod, hex, hdat⟩ := id A.raw
  refine ⟨ty, (fun a' e' => by cases e'; exact ⟨od, hod, hex.2.1⟩), ?_⟩
  show wpAny _ _ (callWith cpos (.builtin "dict.values") [.ref a] [] []) _ X.xe s1
  refine method_meetsIn F.slot_dict_values F.entry_dict_values rfl (PySem.evalArgs_none ⟨rfl, ty, F.args_dict_values_1 _, _, PySem.meets_dict_values_raw a A.lo, ⟨es, ep, A.raw⟩, ?_⟩)
  refine PyProof.Rows.args_nil ?_
  have I2 : Inv X pins σ H1 { s1 with heap := s1.heap.push { cls := .type "dict_values", data := .fields #[.ref a] } } := I1.kept (t' := s1.toks) fun b ob q => Heap.get?_push_of_some _ q
  refine PySem.W.kdl_call (KdlSrc.rawValues (r := s1.heap.objs.size) (d := a) (es := es) (ep := ep)) (I1.ok.hd hc) ⟨⟨_, Heap.get?_push_size _ rfl, rfl, rfl⟩, A.raw.push _⟩ A.size fun h' tk acc c' hk' hD hacc => ?_
  have ek : acc.toList = es.toList.map (·.val) := by
    refine List.ext_getElem? fun i => ?_
    rw [List.getElem?_map, Array.getElem?_toList, Array.getElem?_toList]
    cases e : acc[i]? with
    | none =>
      have : es.size ≤ i := by rw [← hacc.1]; simpa using e
      rw [Array.getElem?_eq_none this]
      rfl
    | some v =>
      obtain ⟨hi, ev⟩ := hacc.2 i v e
      rw [Array.getElem?_eq_getElem hi, ev]
      rfl
  have rl : Vals vv acc.toList := by rw [ek]; exact vr
  have lv : vv.length ≤ sizeLine := by rw [vr.length, List.length_map, Array.length_toList]; exact A.size
  exact ⟨.ref _, upd H1 _ (.lst vv), I2.laid (t' := tk) hk' (Nat.le_refl _) (show ObjOk X.prog X.w _ _ _ (.lst vv) from ⟨lv, acc.toList, c', rl, by rw [Array.toArray_toList]; exact hD⟩), rfl, q vv _ vm (I2.hok.fresh (Nat.le_refl _))⟩
theorem dkeys_of_vals {o : O} {vs : List D} (h : dvalsD o = some vs) : ∃ ks, dkeysD o = some ks := by
  cases o <;> first | exact ⟨_, rfl⟩ | cases h
theorem se_lVals {f : FE} (hc : X.calm = true) (hgl : Gl X "list") (hml : X.mg "list" = none) (he : SE X e f) (hbase : attributeBase e "values" X.env (eval e X.env) = eval e X.env := by rfl) (hline : (apos.endLine == cpos.line) = true := by rfl)
    (na : starEach [Expr.Call (.Attribute e "values" apos) [] [] cpos] X.env = (false, eval (Expr.Call (.Attribute e "values" apos) [] [] cpos) X.env) :: starEach [] X.env := by rfl) :
    SE X (.Call (.Name "list" p) [.Call (.Attribute e "values" apos) [] [] cpos] [] pos) (fLVals f) := by
  obtain ⟨t, pe, re⟩ := he
  refine ⟨_, pe_lVals hc hgl hml pe hbase hline na, fun L st d st' σ H m Q h S l k => ?_⟩
  obtain ⟨⟨q, s1⟩, h1, h⟩ := Option.bind_eq_some_iff.mp h
  simp only at h
  split at h
  · rename_i n
    obtain ⟨o, ho, h⟩ := Option.bind_eq_some_iff.mp h
    obtain ⟨vs, hv, h⟩ := Option.map_eq_some_iff.mp h
    cases h
    refine re L st (.ref n) s1 σ H m _ h1 S l fun v m1 H1 x1 S1 r1 => ?_
    obtain ⟨a, ea, hp⟩ := r1
    obtain ⟨ks, hk⟩ := dkeys_of_vals hv
    refine ⟨a, m1, s1, n, o, ks, vs, ea, S1, hp, ho, hk, hv, fun us q hu hq => ?_⟩
    refine k _ (m1 ++ [q]) _ (x1.trans (ext_new hq)) (S1.laid hq ⟨us, upd_same, hu.ext (ext_new hq)⟩) ⟨q, rfl, ?_⟩
    rw [← S1.len, List.getElem?_concat_length]
  · cases h
end

/-! ## dict(list of pairs) -/
def pairsK : List D → Option (List (Key × D))
  | [] => some []
  | .tup [k, v] :: r => (keyD k).bind fun k => (pairsK r).map fun t => (k, v) :: t
  | _ :: _ => none
def pairsT : List D → Option (List (List Key × D))
  | [] => some []
  | .tup [.tup ks, v] :: r => (keysD ks).bind fun k => (pairsT r).map fun t => (k, v) :: t
  | _ :: _ => none
def mergeD (kvs more : List (Key × D)) : List (Key × D) := more.foldl (fun acc kv => putD acc kv.1 kv.2) kvs
theorem KR.merge {m : List Addr} {H : Hp} {more : List (Key × D)} {ws : List (Key × V)} (r : KR m H more ws) : ∀ {kvs : List (Key × D)} {vs : List (Key × V)}, KR m H kvs vs → KR m H (mergeD kvs more) (mergeK vs ws) := by
  unfold mergeD mergeK
  induction r with
  | nil => intro kvs vs q; exact q
  | cons z t ih =>
    intro kvs vs q
    rw [List.foldl_cons, List.foldl_cons]
    refine ih ?_
    rw [z.1]
    exact q.put z.2
/-- the pairs' tuples -/
theorem pairsK_ok {K : PySem.W.Frag} {m : List Addr} {H : Hp} : ∀ {ds : List D} {vs : List V} {kvs : List (Key × D)}, pairsK ds = some kvs → VRs m H ds vs → ∃ (ps : List Addr) (ws : List (Key × V)), vs = ps.map V.ref ∧ Paired (fun p kv => SqT K H p [kV kv.1, kv.2]) ps ws ∧ KR m H kvs ws
  | [], vs, kvs, h, r => by
    cases h
    exact ⟨[], [], r, .nil, .nil⟩
  | .tup [k, v] :: t, vs, kvs, h, r => by
    obtain ⟨k', h1, h⟩ := Option.bind_eq_some_iff.mp h
    obtain ⟨kr, h2, h⟩ := Option.map_eq_some_iff.mp h
    subst h
    obtain ⟨u, us, e, ⟨p, ws, ep, hp, rw'⟩, r2⟩ := r
    obtain ⟨ps, wr, e2, q1, q2⟩ := pairsK_ok h2 r2
    obtain ⟨w1, w2, ew, rk, rv⟩ := rw'.two
    subst ew
    rw [keyD_ok h1 rk] at hp
    exact ⟨p :: ps, (k', w2) :: wr, by rw [e, ep, e2]; rfl, .cons (SqT.of hp) q1, .cons ⟨rfl, rv⟩ q2⟩
  | .non :: _, _, _, h, _ => by cases h
  | .bl _ :: _, _, _, h, _ => by cases h
  | .int _ :: _, _, _, h, _ => by cases h
  | .str _ :: _, _, _, h, _ => by cases h
  | .ref _ :: _, _, _, h, _ => by cases h
  | .ft _ :: _, _, _, h, _ => by cases h
  | .ty _ :: _, _, _, h, _ => by cases h
  | .tup [] :: _, _, _, h, _ => by cases h
  | .tup [_] :: _, _, _, h, _ => by cases h
  | .tup (_ :: _ :: _ :: _) :: _, _, _, h, _ => by cases h
def dictKD : FF := fun ds s => match ds with
  | [x] => (lstD s x).bind fun xs => (pairsK xs).map fun kvs => (.ref s.length, s ++ [.dK (mergeD [] kvs)])
  | _ => none
def rDictP (K : PySem.W.Frag) : List V → Hp → VK → Prop := fun xs H Q => ∃ (a : Addr) (ps : List Addr) (kvs : List (Key × V)), xs = [.ref a] ∧ SqL K H a (ps.map V.ref) ∧ Paired (fun p kv => SqT K H p [kV kv.1, kv.2]) ps kvs ∧ ∀ p, H p = none → Q (.ref p) (upd H p (.dK (mergeK [] kvs)))
theorem call_dictX {X : Cx} (hc : X.calm = true) : CallR X (.type "dict") (rDictP X.K) := call_dictP hc
theorem oc_dictK (K : PySem.W.Frag) : OC (rDictP K) dictKD := by
  intro ds st d st' H m vs Q h S r k
  unfold dictKD at h
  split at h
  · obtain ⟨xs, h1, h⟩ := Option.bind_eq_some_iff.mp h
    obtain ⟨kvs, h2, h⟩ := Option.map_eq_some_iff.mp h
    cases h
    obtain ⟨v, ev, rv⟩ := r.one
    obtain ⟨p, ws, ep, hq, rw'⟩ := lstD_ok (K := K) S h1 rv
    obtain ⟨ps, wk, ew, q1, q2⟩ := pairsK_ok (K := K) h2 rw'
    subst ew
    refine ⟨p, ps, wk, by rw [ev, ep], hq, q1, fun q hn => ?_⟩
    have kr : KR m H (mergeD [] kvs) (mergeK [] wk) := KR.merge q2 .nil
    refine k _ (m ++ [q]) _ (ext_new hn) (S.laid hn ⟨_, upd_same, kr.ext (ext_new hn)⟩) ⟨q, rfl, ?_⟩
    rw [← S.len, List.getElem?_concat_length]
  · cases h
/-! .. with tuples as keys, all different -/
theorem pairsT_ok {K : PySem.W.Frag} {m : List Addr} {H : Hp} : ∀ {ds : List D} {vs : List V} {kvs : List (List Key × D)}, pairsT ds = some kvs → VRs m H ds vs →
    ∃ (ps : List Addr) (bs : List Addr) (ws : List (List Key × V)), vs = ps.map V.ref ∧ bs.length = ps.length ∧ ws.length = ps.length ∧ KR m H kvs ws ∧
      ∀ (j : Nat) (p b : Addr) (w : List Key × V), ps[j]? = some p → bs[j]? = some b → ws[j]? = some w → SqT K H p [.ref b, w.2] ∧ H b = some (.tup (w.1.map kV))
  | [], vs, kvs, h, r => by
    cases h
    exact ⟨[], [], [], r, rfl, rfl, .nil, fun j p b w e => by simp at e⟩
  | .tup [.tup k, v] :: t, vs, kvs, h, r => by
    obtain ⟨k', h1, h⟩ := Option.bind_eq_some_iff.mp h
    obtain ⟨kr, h2, h⟩ := Option.map_eq_some_iff.mp h
    subst h
    obtain ⟨u, us, e, ⟨p, ws, ep, hp, rw'⟩, r2⟩ := r
    obtain ⟨ps, bs, wr, e2, l1, l2, q1, q2⟩ := pairsT_ok (K := K) h2 r2
    obtain ⟨w1, w2, ew, ⟨b, ks, eb, hb, rk⟩, rv⟩ := rw'.two
    subst ew
    rw [eb] at hp
    rw [keysD_ok h1 rk] at hb
    refine ⟨p :: ps, b :: bs, (k', w2) :: wr, by rw [e, ep, e2]; rfl, by simp [l1], by simp [l2], .cons ⟨rfl, rv⟩ q1, fun j p' b' w' f1 f2 f3 => ?_⟩
    cases j with
    | zero =>
      simp at f1 f2 f3
      subst f1
      subst f2
      subst f3
      exact ⟨SqT.of hp, hb⟩
    | succ j => exact q2 j p' b' w' (by simpa using f1) (by simpa using f2) (by simpa using f3)
  | .non :: _, _, _, h, _ => by cases h
  | .bl _ :: _, _, _, h, _ => by cases h
  | .int _ :: _, _, _, h, _ => by cases h
  | .str _ :: _, _, _, h, _ => by cases h
  | .ref _ :: _, _, _, h, _ => by cases h
  | .ft _ :: _, _, _, h, _ => by cases h
  | .ty _ :: _, _, _, h, _ => by cases h
  | .tup [] :: _, _, _, h, _ => by simp [pairsT] at h
  | .tup [_] :: _, _, _, h, _ => by simp [pairsT] at h
  | .tup (_ :: _ :: _ :: _) :: _, _, _, h, _ => by simp [pairsT] at h
  | .tup [.non, _] :: _, _, _, h, _ => by cases h
  | .tup [.bl _, _] :: _, _, _, h, _ => by cases h
  | .tup [.int _, _] :: _, _, _, h, _ => by cases h
  | .tup [.str _, _] :: _, _, _, h, _ => by cases h
  | .tup [.ref _, _] :: _, _, _, h, _ => by cases h
  | .tup [.ft _, _] :: _, _, _, h, _ => by cases h
  | .tup [.ty _, _] :: _, _, _, h, _ => by cases h
theorem paired_of {α β : Type} {F : α → β → Prop} : ∀ {l : List α} {r : List β}, r.length = l.length → (∀ (i : Nat) (a : α) (b : β), l[i]? = some a → r[i]? = some b → F a b) → Paired F l r
  | [], [], _, _ => .nil
  | a :: l, b :: r, hl, h => .cons (h 0 a b rfl rfl) (paired_of (by simpa using hl) fun i a' b' e1 e2 => h (i + 1) a' b' (by simpa using e1) (by simpa using e2))
  | [], _ :: _, hl, _ => by simp at hl
  | _ :: _, [], hl, _ => by simp at hl
theorem KR.fst {κ : Type} {m : List Addr} {H : Hp} : ∀ {kvs : List (κ × D)} {ws : List (κ × V)}, KR m H kvs ws → kvs.map (·.1) = ws.map (·.1)
  | _, _, .nil => rfl
  | _, _, .cons z t => by rw [List.map_cons, List.map_cons, z.1, KR.fst t]
def dictTD : FF := fun ds s => match ds with
  | [x] => (lstD s x).bind fun xs => (pairsT xs).bind fun kvs => if (decide ((kvs.map (·.1)).Nodup) && decide (kvs.length ≤ sizeLine)) = true then some (.ref s.length, s ++ [.dT kvs]) else none
  | _ => none
def rDictT (K : PySem.W.Frag) : List V → Hp → VK → Prop := fun xs H Q => ∃ (a : Addr) (ps bs : List Addr) (ws : List (List Key × V)), xs = [.ref a] ∧ SqL K H a (ps.map V.ref) ∧ bs.length = ps.length ∧ ws.length = ps.length ∧
  (∀ (j : Nat) (p b : Addr) (w : List Key × V), ps[j]? = some p → bs[j]? = some b → ws[j]? = some w → SqT K H p [.ref b, w.2] ∧ H b = some (.tup (w.1.map kV))) ∧ (ws.map (·.1)).Nodup ∧ ws.length ≤ sizeLine ∧ ∀ q, H q = none → Q (.ref q) (upd H q (.dT ws))
theorem call_dictT {X : Cx} (hc : X.calm = true) (hu : X.A.units + 64 < cLine) : CallR X (.type "dict") (rDictT X.K) := by
  intro pins s σ H xs us Q I r h
  obtain ⟨a, ps, bs, ws, rfl, hq, lb, lw, hat, nd, hz, q⟩ := h
  obtain ⟨its, rv, pl, zz⟩ := I.list hq
  have ei := refs_at rv
  rw [Vals.ref1 r]
  -- the values of the pairs
  have vals : ∀ (j : Nat) (p b : Addr) (w : List Key × V), ps[j]? = some p → bs[j]? = some b → ws[j]? = some w → ∃ y, RelV w.2 y ∧ s.heap.IsTuple p #[.ref b, y] := fun j p b w e1 e2 e3 => by
    obtain ⟨h1, _⟩ := hat j p b w e1 e2 e3
    obtain ⟨ti, tr, tp, _⟩ := I.tuple h1
    obtain ⟨u, y, et, ru, ry⟩ := vals2 tr
    subst et
    cases ru
    exact ⟨y, ry, tp⟩
  have ex : ∃ ys : List Value, ys.length = ps.length ∧ ∀ (j : Nat) (p b : Addr) (w : List Key × V) (y : Value), ps[j]? = some p → bs[j]? = some b → ws[j]? = some w → ys[j]? = some y → RelV w.2 y ∧ s.heap.IsTuple p #[.ref b, y] := by
    clear hat q hq rv ei pl nd hz r zz
    induction ps generalizing bs ws with
    | nil => exact ⟨[], rfl, fun j p b w y e => by simp at e⟩
    | cons p ps ih =>
      cases bs with
      | nil => simp at lb
      | cons b bs =>
        cases ws with
        | nil => simp at lw
        | cons w ws =>
          obtain ⟨y, h1, h2⟩ := vals 0 p b w rfl rfl rfl
          obtain ⟨ys, l, h3⟩ := ih bs ws (by simpa using lb) (by simpa using lw) fun j p' b' w' e1 e2 e3 => vals (j + 1) p' b' w' (by simpa using e1) (by simpa using e2) (by simpa using e3)
          refine ⟨y :: ys, by simp [l], fun j p' b' w' y' e1 e2 e3 e4 => ?_⟩
          cases j with
          | zero =>
            simp at e1 e2 e3 e4
            subst e1
            subst e2
            subst e3
            subst e4
            exact ⟨h1, h2⟩
          | succ j => exact h3 j p' b' w' y' (by simpa using e1) (by simpa using e2) (by simpa using e3) (by simpa using e4)
  obtain ⟨ys, ly, hys⟩ := ex
  -- positions
  have pos : ∀ {j : Nat}, j < ps.length → ∃ p b w y, ps[j]? = some p ∧ bs[j]? = some b ∧ ws[j]? = some w ∧ ys[j]? = some y := fun {j} hj =>
    ⟨_, _, _, _, List.getElem?_eq_getElem hj, List.getElem?_eq_getElem (by omega), List.getElem?_eq_getElem (by omega), List.getElem?_eq_getElem (by omega)⟩
  let ps1 : List (Value × Value) := List.zipWith (fun b y => (Value.ref b, y)) bs ys
  let ps2 : List (List Key × Addr × Value) := List.zipWith (fun w by' => (w.1, by'.1, by'.2)) ws (bs.zip ys)
  have l1 : ps1.length = ps.length := by simp [ps1, lb, ly]
  have l2 : ps2.length = ps.length := by simp [ps2, lb, ly, lw]
  have at1 : ∀ {j : Nat} {b : Addr} {y : Value}, bs[j]? = some b → ys[j]? = some y → ps1[j]? = some (.ref b, y) := fun e1 e2 => by
    simp only [ps1]
    rw [List.getElem?_zipWith, e1, e2]
  have at2 : ∀ {j : Nat} {b : Addr} {y : Value} {w : List Key × V}, ws[j]? = some w → bs[j]? = some b → ys[j]? = some y → ps2[j]? = some (w.1, b, y) := fun {j b y w} e0 e1 e2 => by
    simp only [ps2]
    have e3 : (bs.zip ys)[j]? = some (b, y) := List.getElem?_zip_eq_some.mpr ⟨e1, e2⟩
    rw [List.getElem?_zipWith, e0, e3]
  have keys2 : ps2.map (·.1) = ws.map (·.1) := by
    refine List.ext_getElem? fun j => ?_
    rw [List.getElem?_map, List.getElem?_map]
    by_cases hj : j < ps.length
    · obtain ⟨p, b, w, y, e1, e2, e3, e4⟩ := pos hj
      rw [at2 e3 e2 e4, e3]
      rfl
    · rw [List.getElem?_eq_none (by omega), List.getElem?_eq_none (by omega)]
      rfl
  have itm : ∀ {j : Nat} {p : Addr}, ps[j]? = some p → its.toArray[j]? = some (.ref p) := fun e => by
    rw [ei]
    simp [e]
  have isz : its.toArray.size = ps.length := by rw [ei]; simp
  have pit : PySem.PairItems s.heap its.toArray (fun j => ps.getD j 0) ps1 := by
    refine ⟨by rw [isz, l1], fun j k v e => ?_⟩
    have hj : j < ps.length := by rw [← l1]; exact (List.getElem?_eq_some_iff.mp e).1
    obtain ⟨p, b, w, y, e1, e2, e3, e4⟩ := pos hj
    rw [at1 e2 e4] at e
    cases e
    have hgd : ps.getD j 0 = p := by rw [List.getD_eq_getElem?_getD, e1]; rfl
    show its.toArray[j]? = some (.ref (ps.getD j 0)) ∧ PairAt s.heap (ps.getD j 0) _ _
    rw [hgd]
    exact ⟨itm e1, .inl (hys j p b w _ e1 e2 e3 e4).2⟩
  have psq : PySem.PlainSeq "list" s.heap a its.toArray := by
    obtain ⟨o, n, e1, e2, e3, e4⟩ := pl
    exact ⟨o, n, e1, e2, e3, e4⟩
  refine PySem.call_dict_pairsH (knd := tupleKind (mixKind X.prog X.w)) (ps := ps2) (PySem.PairArg.list a its.toArray (fun j => ps.getD j 0) ps1) (I.ok.hd hc) (by show X.A.units + 1 + 1 < cLine; omega) ⟨psq, pit⟩ ⟨by rw [l2, l1], fun i key v e => ?_⟩ (fun h' hk x hx => ?_) (by rw [l1]; omega) fun h' tk hD hk => ?_
  · have hi : i < ps.length := by rw [← l1]; exact (List.getElem?_eq_some_iff.mp (show ps1[i]? = some (key, v) from e)).1
    obtain ⟨p, b, w, y, e1, e2, e3, e4⟩ := pos hi
    have e' : ps1[i]? = some (key, v) := e
    rw [at1 e2 e4] at e'
    cases e'
    exact ⟨w.1, b, at2 e3 e2 e4, rfl⟩
  · obtain ⟨j, hj⟩ := List.mem_iff_getElem?.mp hx
    have hj' : j < ps.length := by rw [← l2]; exact (List.getElem?_eq_some_iff.mp hj).1
    obtain ⟨p, b, w, y, e1, e2, e3, e4⟩ := pos hj'
    rw [at2 e3 e2 e4] at hj
    cases hj
    have I' : Inv X pins σ H { s with heap := h' } := I.kept (t' := s.toks) fun c o e => hk c o (Nat.ne_of_lt (Heap.lt_size e)) (by simp) e
    exact key_of I'.hok (hat j p b w e1 e2 e3).2
  · rw [PySem.storedAllH_nil_of_nodup ps2 (by rw [keys2]; exact nd)] at hD
    have hm : (s.heap.objs.size == sysModules) = false := beq_eq_false_iff_ne.mpr (Nat.ne_of_gt I.big)
    obtain ⟨od, es, ep, d1, d2, d3, d4, d5, d6⟩ := hD
    have hn : H s.heap.objs.size = none := I.hok.fresh (Nat.le_refl _)
    refine ⟨.ref s.heap.objs.size, upd H s.heap.objs.size (.dT ws), I.laid (t' := tk) (fun b o e => hk b o (by simp) e) (Nat.le_refl _) (show ObjOk X.prog X.w _ _ _ (.dT ws) from ⟨hz, hm, ps2, ?_, od, es, ep, d1, d2, d3, d4, d6⟩), rfl, q _ hn⟩
    refine paired_of (by rw [l2, lw]) fun j w x e1 e2 => ?_
    have hj : j < ps.length := by rw [← lw]; exact (List.getElem?_eq_some_iff.mp e1).1
    obtain ⟨p, b, w', y, f1, f2, f3, f4⟩ := pos hj
    rw [f3] at e1
    cases e1
    rw [at2 f3 f2 f4] at e2
    cases e2
    refine ⟨rfl, ?_, (hys j p b w y f1 f2 f3 f4).1⟩
    have hb := (hat j p b w f1 f2 f3).2
    rw [upd_ne (ne_of_none hb hn)]
    exact hb
theorem oc_dictT (K : PySem.W.Frag) : OC (rDictT K) dictTD := by
  intro ds st d st' H m vs Q h S r k
  unfold dictTD at h
  split at h
  · obtain ⟨xs, h1, h⟩ := Option.bind_eq_some_iff.mp h
    obtain ⟨kvs, h2, h⟩ := Option.bind_eq_some_iff.mp h
    split at h
    · rename_i hc
      cases h
      simp only [Bool.and_eq_true, decide_eq_true_eq] at hc
      obtain ⟨v, ev, rv⟩ := r.one
      obtain ⟨p, ws, ep, hq, rw'⟩ := lstD_ok (K := K) S h1 rv
      obtain ⟨ps, bs, wk, ew, lb, lw, kr, q2⟩ := pairsT_ok (K := K) h2 rw'
      subst ew
      have ek : wk.map (·.1) = kvs.map (·.1) := (KR.fst kr).symm
      refine ⟨p, ps, bs, wk, by rw [ev, ep], hq, lb, lw, q2, by rw [ek]; exact hc.1, by rw [← kr.len]; exact hc.2, fun q hn => ?_⟩
      refine k _ (m ++ [q]) _ (ext_new hn) (S.laid hn ⟨_, upd_same, kr.ext (ext_new hn)⟩) ⟨q, rfl, ?_⟩
      rw [← S.len, List.getElem?_concat_length]
    · cases h
  · cases h
end FL

set_option Elab.async false
set_option linter.all false
set_option maxRecDepth 100000
set_option autoImplicit false
namespace FZ
open PySem
open PySem.Sem (wp)

/-! a zip object at any time: its first two fields tell of the tuple that it gave last -/
abbrev ZipAs (h : Heap) (zz ti to : Addr) (f0 f1 : Value) : Prop :=
  h.get? zz = some { cls := .type "zip", dict := none, data := .fields #[f0, f1, .bool false, .ref ti, .ref to], slots := #[] }
def ZipFl (f0 f1 : Value) : Prop := ∃ f : Bool, f1 = .bool f ∧ (f0 = .none ∨ ∃ T : Addr, f0 = rawInt T)
section
variable {prog : Program} {w : World} {A : Around} {E : Value → Shared → Prop} {s : Shared} {zz ti to j1 j2 : Addr} {f0 f1 : Value}
theorem alive_no {a : Addr} {Q : Option Obj → Shared → Prop} (ho : s.heap.get? a = none) (h : Q none s) : wpAny (model prog w) A (loadIfAlive a) Q E s := by
  have h' : Q (s.heap.get? a) s := by rw [ho]; exact h
  exact fun _ _ _ => h'
theorem zip_isFree {Q : Bool → Shared → Prop} (kz : ZipAs s.heap zz ti to f0 f1) (ok : ZipFl f0 f1) (ht : Q true s) (hf : ∀ g, ZipAs g zz ti to f0 (.bool true) → (∃ T : Addr, f0 = rawInt T) → Heap.SameBut zz s.heap g → Q false { s with heap := g }) :
    wpAny (model prog w) A (Builtin.SmallTypes.ownedTupleIsFree (.ref zz)) Q E s := by
  unfold Builtin.SmallTypes.ownedTupleIsFree
  rcases ok with ⟨f, e1, e0 | ⟨T, e0⟩⟩
  · subst e0
    subst e1
    exact wpAny_bind (wpAny_field kz rfl (x := .none) rfl (wpAny_pure ht))
  · subst e0
    subst e1
    refine wpAny_bind (wpAny_field kz rfl (x := rawInt T) rfl ?_)
    show wpAny _ _ (loadIfAlive ((T : Int).toNat) >>= _) _ _ _
    rw [Int.toNat_natCast]
    cases hT : s.heap.get? T with
    | none => exact wpAny_bind (alive_no hT (wpAny_pure ht))
    | some oT =>
      refine wpAny_bind (PySem.W.kdx_alive hT ?_)
      simp only [Option.isNone_some, Bool.false_eq_true, if_false]
      refine wpAny_bind (wpAny_field kz rfl (x := .bool f) rfl ?_)
      cases f with
      | true =>
        rw [if_neg (show ¬ ((Value.bool true != Value.bool true) = true) from Bool.false_ne_true)]
        exact wpAny_pure (hf s.heap kz ⟨T, rfl⟩ (Heap.SameBut.refl _ _))
      | false =>
        rw [if_pos (show (Value.bool false != Value.bool true) = true from rfl)]
        exact wpAny_bind (wpAny_setField_rec kz (by simp) fun g kg sg => wpAny_pure (hf g kg ⟨T, rfl⟩ sg))
variable {fa fb : List Addr} {n1 n2 i : Nat} {P1 P2 : Nat → Value → Prop} {S1 S2 : Nat → Heap → Prop}
/-- both are drawn; the tuple is new -/
theorem zip_next_one {Q : Value → Shared → Prop} (Z : ZipSep2 zz ti to j1 j2 fa fb) (D1 : Draws prog w A j1 fa n1 P1 S1) (D2 : Draws prog w A j2 fb n2 P2 S2)
    (kz : ZipAs s.heap zz ti to f0 f1) (ok : ZipFl f0 f1) (kti : IsTupOf2 s.heap ti (.ref j1) (.ref j2)) (kto : ∃ a b, IsTupOf2 s.heap to a b) (t1 : S1 i s.heap) (t2 : S2 i s.heap) (l1 : i < n1) (l2 : i < n2)
    (hQ : ∀ y1 y2 g' tk g0 g1, P1 i y1 → P2 i y2 → ZipAs g' zz ti to g0 g1 → ZipFl g0 g1 → (∃ a b, IsTupOf2 g' to a b) → S1 (i + 1) g' → S2 (i + 1) g' → IsTupOf2 g' s.heap.objs.size y1 y2 → g'.objs.size = s.heap.objs.size + 1 →
      (∀ c o, c ≠ zz → c ≠ to → c ≠ j1 → c ≠ j2 → s.heap.get? c = some o → g'.get? c = some o) → Q (.ref s.heap.objs.size) { s with heap := g', toks := tk }) :
    wpAny (model prog w) A (Builtin.«zip.__next__» ⟨[.ref zz], []⟩) (fun fin s' => ∃ v, fin = .done (.ret v) ∧ Q v s') E s := by
  obtain ⟨hp, gn, dr, tk0, os⟩ := s
  obtain ⟨a1, a2, kto⟩ := kto
  show wpAny _ _ (field (.ref zz) 2 >>= _) _ _ _
  refine wpAny_bind (wpAny_field kz rfl (x := .bool false) rfl ?_)
  show wpAny _ _ (field (.ref zz) 3 >>= _) _ _ _
  refine wpAny_bind (wpAny_field kz rfl (x := .ref ti) rfl ?_)
  refine wpAny_bind (wpAny_seqItems kti rfl ?_)
  show wpAny _ _ (Builtin.SmallTypes.ownedTupleIsFree (.ref zz) >>= _) _ _ _
  refine wpAny_bind (zip_isFree kz ok ?_ fun u0 ku hT su => ?_)
  · -- the tuple is taken again
    simp only [if_true]
    refine wpAny_bind (wpAny_rule ?_)
    refine wpAny_bind (wpAny_field kz rfl (x := .ref to) rfl ?_)
    refine wpAny_bind (wpAny_setField_rec kz (by simp) fun u0 ku0 su0 => ?_)
    replace ku0 : ZipAs u0 zz ti to .ellipsis f1 := ku0
    replace su0 : Heap.SameBut zz hp u0 := su0
    refine wpAny_bind ?_
    simp only [List.zipIdx_cons, List.zipIdx_nil, List.forIn_cons, List.forIn_nil]
    refine wpAny_bind (wpAny_bind (wpAny_onRaise ?_))
    show wpAny _ _ (Builtin.SmallTypes.nextOf (.ref j1) >>= _) _ _ ⟨u0, gn, dr, tk0, os⟩
    refine wpAny_bind (D1.item i _ _ _ l1 (D1.over t1 su0 Z.zf1) fun y1 v1 tk1 hy1 nt1 sv1 => wpAny_pure ?_)
    replace sv1 : Heap.SameBut j1 u0 v1 := sv1
    have kw1 : IsTupOf2 v1 to a1 a2 := sv1.extBut _ _ Z.Ti1 (su0.extBut _ _ Z.TOz kto)
    refine wpAny_bind (wpAny_seqItems (s := ⟨v1, gn, dr, tk1, os⟩) kw1 rfl ?_)
    refine wpAny_bind (updateSeq_IsTupOf2 (s := ⟨v1, gn, dr, tk1, os⟩) kw1 fun u1 ku1 su1 => ?_)
    replace ku1 : IsTupOf2 u1 to y1 a2 := ku1
    replace su1 : Heap.SameBut to v1 u1 := su1
    refine wpAny_bind (wpAny_letGo (wpAny_pure ?_))
    refine wpAny_bind (wpAny_bind (wpAny_onRaise ?_))
    show wpAny _ _ (Builtin.SmallTypes.nextOf (.ref j2) >>= _) _ _ ⟨u1, gn, dr, tk1, os⟩
    refine wpAny_bind (D2.item i _ _ _ l2 (D2.over (D2.over (D2.over t2 su0 Z.zf2) sv1 Z.sep1_2) su1 Z.Tf2) fun y2 v2 tk2 hy2 nt2 sv2 => wpAny_pure ?_)
    replace sv2 : Heap.SameBut j2 u1 v2 := sv2
    have kw2 : IsTupOf2 v2 to y1 a2 := sv2.extBut _ _ Z.Ti2 ku1
    refine wpAny_bind (wpAny_seqItems (s := ⟨v2, gn, dr, tk2, os⟩) kw2 rfl ?_)
    refine wpAny_bind (updateSeq_IsTupOf2 (s := ⟨v2, gn, dr, tk2, os⟩) kw2 fun u2 ku2 su2 => ?_)
    replace ku2 : IsTupOf2 u2 to y1 y2 := ku2
    replace su2 : Heap.SameBut to v2 u2 := su2
    refine wpAny_bind (wpAny_letGo (wpAny_pure (wpAny_pure ?_)))
    refine wpAny_bind (wpAny_seqItems (s := ⟨u2, gn, dr, tk2, os⟩) ku2 rfl ?_)
    refine wpAny_bind (wpAny_newTuple ?_)
    have sz : u2.objs.size = hp.objs.size := by rw [su2.1, sv2.1, su1.1, sv1.1, su0.1]
    have kzz : ZipAs u2 zz ti to .ellipsis f1 := su2.extBut _ _ Z.TOz.symm (sv2.extBut _ _ Z.zi2 (su1.extBut _ _ Z.TOz.symm (sv1.extBut _ _ Z.zi1 ku0)))
    have fr : ∀ c o, c ≠ zz → c ≠ to → c ≠ j1 → c ≠ j2 → hp.get? c = some o → u2.get? c = some o := fun c o cz cT c1 c2 e =>
      su2.extBut _ _ cT (sv2.extBut _ _ c2 (su1.extBut _ _ cT (sv1.extBut _ _ c1 (su0.extBut _ _ cz e))))
    have nj1 : S1 (i + 1) u2 := D1.over (D1.over (D1.over nt1 su1 Z.Tf1) sv2 Z.sep2_1) su2 Z.Tf1
    have nj2 : S2 (i + 1) u2 := D2.over nt2 su2 Z.Tf2
    have zlt : zz < u2.objs.size := Heap.lt_size kzz
    show wpAny _ _ (Builtin.SmallTypes.ownedTupleHandOut (.ref zz) (.ref u2.objs.size) >>= _) _ _ ⟨u2.push { cls := .type "tuple", data := .seq #[y1, y2] }, gn, dr, tk2, os⟩
    refine wpAny_bind ?_
    unfold Builtin.SmallTypes.ownedTupleHandOut
    have kz6 : ZipAs (u2.push { cls := .type "tuple", data := .seq #[y1, y2] }) zz ti to .ellipsis f1 := Heap.get?_push_of_some _ kzz
    refine wpAny_bind (wpAny_setField_rec kz6 (by simp) fun u7 ku7 su7 => ?_)
    replace ku7 : ZipAs u7 zz ti to (rawInt u2.objs.size) f1 := ku7
    refine wpAny_setField_rec ku7 (by simp) fun u8 ku8 su8 => ?_
    replace ku8 : ZipAs u8 zz ti to (rawInt u2.objs.size) (.bool false) := ku8
    replace su7 : Heap.SameBut zz (u2.push { cls := .type "tuple", data := .seq #[y1, y2] }) u7 := su7
    replace su8 : Heap.SameBut zz u7 u8 := su8
    have up : ∀ c o, c ≠ zz → u2.get? c = some o → u8.get? c = some o := fun c o c1 e => su8.extBut _ _ c1 (su7.extBut _ _ c1 (Heap.get?_push_of_some _ e))
    have kT8 : IsTupOf2 u8 u2.objs.size y1 y2 := su8.extBut _ _ (Nat.ne_of_gt zlt) (su7.extBut _ _ (Nat.ne_of_gt zlt) (Heap.get?_push_size _ rfl))
    have sz8 : u8.objs.size = u2.objs.size + 1 := by rw [su8.1, su7.1, Heap.size_push]
    rw [sz] at ku8 kT8 sz8
    refine wpAny_pure ⟨_, rfl, ?_⟩
    show Q (.ref u2.objs.size) ⟨u8, gn, dr, tk2, os⟩
    rw [sz]
    exact hQ y1 y2 u8 tk2 _ _ hy1 hy2 ku8 ⟨_, rfl, .inr ⟨_, rfl⟩⟩ ⟨_, _, up _ _ Z.TOz ku2⟩ (D1.frame _ _ _ nj1 fun b hb o e => up b o (fun q => Z.zf1 (q ▸ hb)) e) (D2.frame _ _ _ nj2 fun b hb o e => up b o (fun q => Z.zf2 (q ▸ hb)) e) kT8 sz8
      fun c o cz cT c1 c2 e => up c o cz (fr c o cz cT c1 c2 e)
  · -- the tuple is held
    obtain ⟨T, hT⟩ := hT
    replace su : Heap.SameBut zz hp u0 := su
    simp only [Bool.false_eq_true, if_false]
    refine wpAny_bind ?_
    rw [← Array.forIn_toList]
    simp only [List.forIn_cons, List.forIn_nil]
    refine wpAny_bind (wpAny_bind (wpAny_holding ?_))
    show wpAny _ _ (Builtin.SmallTypes.nextOf (.ref j1) >>= _) _ _ ⟨u0, gn, dr, tk0, os⟩
    refine wpAny_bind (D1.item i _ _ _ l1 (D1.over t1 su Z.zf1) fun y1 v1 tk1 hy1 nt1 sv1 => wpAny_pure ?_)
    replace sv1 : Heap.SameBut j1 u0 v1 := sv1
    refine wpAny_pure ?_
    refine wpAny_bind (wpAny_bind (wpAny_holding ?_))
    show wpAny _ _ (Builtin.SmallTypes.nextOf (.ref j2) >>= _) _ _ ⟨v1, gn, dr, tk1, os⟩
    refine wpAny_bind (D2.item i _ _ _ l2 (D2.over (D2.over t2 su Z.zf2) sv1 Z.sep1_2) fun y2 v2 tk2 hy2 nt2 sv2 => wpAny_pure ?_)
    replace sv2 : Heap.SameBut j2 v1 v2 := sv2
    refine wpAny_pure (wpAny_pure ?_)
    show wpAny _ _ (newTuple [y1, y2] >>= _) _ _ _
    refine wpAny_bind (wpAny_newTuple ?_)
    have sz : v2.objs.size = hp.objs.size := by rw [sv2.1, sv1.1, su.1]
    have kz3 : ZipAs v2 zz ti to f0 (.bool true) := sv2.extBut _ _ Z.zi2 (sv1.extBut _ _ Z.zi1 ku)
    have kt3 : IsTupOf2 v2 to a1 a2 := sv2.extBut _ _ Z.Ti2 (sv1.extBut _ _ Z.Ti1 (su.extBut _ _ Z.TOz kto))
    have fr : ∀ c o, c ≠ zz → c ≠ to → c ≠ j1 → c ≠ j2 → hp.get? c = some o → v2.get? c = some o := fun c o cz cT c1 c2 e => sv2.extBut _ _ c2 (sv1.extBut _ _ c1 (su.extBut _ _ cz e))
    have nj1 : S1 (i + 1) v2 := D1.over nt1 sv2 Z.sep2_1
    refine wpAny_pure ⟨_, rfl, ?_⟩
    show Q (.ref v2.objs.size) ⟨v2.push { cls := .type "tuple", data := .seq #[y1, y2] }, gn, dr, tk2, os⟩
    have kp : IsTupOf2 (v2.push { cls := .type "tuple", data := .seq #[y1, y2] }) v2.objs.size y1 y2 := Heap.get?_push_size _ rfl
    have sz4 : (v2.push { cls := .type "tuple", data := .seq #[y1, y2] }).objs.size = v2.objs.size + 1 := Heap.size_push ..
    rw [sz] at kp sz4 ⊢
    exact hQ y1 y2 _ tk2 _ _ hy1 hy2 (Heap.get?_push_of_some _ kz3) ⟨_, rfl, .inr ⟨T, hT⟩⟩ ⟨_, _, Heap.get?_push_of_some _ kt3⟩ (D1.frame _ _ _ nj1 fun b _ o e => Heap.get?_push_of_some _ e) (D2.frame _ _ _ nt2 fun b _ o e => Heap.get?_push_of_some _ e) kp sz4
      fun c o cz cT c1 c2 e => Heap.get?_push_of_some _ (fr c o cz cT c1 c2 e)
/-- one of them has no more -/
theorem zip_next_no {Q : Fin → Shared → Prop} (Z : ZipSep2 zz ti to j1 j2 fa fb) (D1 : Draws prog w A j1 fa n1 P1 S1) (D2 : Draws prog w A j2 fb n2 P2 S2)
    (kz : ZipAs s.heap zz ti to f0 f1) (ok : ZipFl f0 f1) (kti : IsTupOf2 s.heap ti (.ref j1) (.ref j2)) (kto : ∃ a b, IsTupOf2 s.heap to a b) (t1 : S1 i s.heap) (t2 : S2 i s.heap) (le1 : i ≤ n1) (le2 : i ≤ n2) (hend : i = n1 ∨ i = n2)
    (hE : ∀ g' tk e, (∀ c o, c ≠ zz → c ≠ to → c ≠ j1 → c ≠ j2 → s.heap.get? c = some o → g'.get? c = some o) → (∃ o, g'.get? e = some o ∧ o.cls = .type "StopIteration") → E (.ref e) { s with heap := g', toks := tk }) :
    wpAny (model prog w) A (Builtin.«zip.__next__» ⟨[.ref zz], []⟩) Q E s := by
  obtain ⟨hp, gn, dr, tk0, os⟩ := s
  obtain ⟨a1, a2, kto⟩ := kto
  show wpAny _ _ (field (.ref zz) 2 >>= _) _ _ _
  refine wpAny_bind (wpAny_field kz rfl (x := .bool false) rfl ?_)
  show wpAny _ _ (field (.ref zz) 3 >>= _) _ _ _
  refine wpAny_bind (wpAny_field kz rfl (x := .ref ti) rfl ?_)
  refine wpAny_bind (wpAny_seqItems kti rfl ?_)
  show wpAny _ _ (Builtin.SmallTypes.ownedTupleIsFree (.ref zz) >>= _) _ _ _
  refine wpAny_bind (zip_isFree kz ok ?_ fun u0 ku hT su => ?_)
  · simp only [if_true]
    refine wpAny_bind (wpAny_rule ?_)
    refine wpAny_bind (wpAny_field kz rfl (x := .ref to) rfl ?_)
    refine wpAny_bind (wpAny_setField_rec kz (by simp) fun u0 ku0 su0 => ?_)
    replace ku0 : ZipAs u0 zz ti to .ellipsis f1 := ku0
    replace su0 : Heap.SameBut zz hp u0 := su0
    refine wpAny_bind ?_
    simp only [List.zipIdx_cons, List.zipIdx_nil, List.forIn_cons, List.forIn_nil]
    refine wpAny_bind (wpAny_bind (wpAny_onRaise ?_))
    show wpAny _ _ (Builtin.SmallTypes.nextOf (.ref j1) >>= _) _ _ ⟨u0, gn, dr, tk0, os⟩
    by_cases l1 : i < n1
    · refine wpAny_bind (D1.item i _ _ _ l1 (D1.over t1 su0 Z.zf1) fun y1 v1 tk1 hy1 nt1 sv1 => wpAny_pure ?_)
      replace sv1 : Heap.SameBut j1 u0 v1 := sv1
      have kw1 : IsTupOf2 v1 to a1 a2 := sv1.extBut _ _ Z.Ti1 (su0.extBut _ _ Z.TOz kto)
      refine wpAny_bind (wpAny_seqItems (s := ⟨v1, gn, dr, tk1, os⟩) kw1 rfl ?_)
      refine wpAny_bind (updateSeq_IsTupOf2 (s := ⟨v1, gn, dr, tk1, os⟩) kw1 fun u1 ku1 su1 => ?_)
      replace ku1 : IsTupOf2 u1 to y1 a2 := ku1
      replace su1 : Heap.SameBut to v1 u1 := su1
      refine wpAny_bind (wpAny_letGo (wpAny_pure ?_))
      have ei2 : i = n2 := by omega
      refine wpAny_bind (wpAny_bind (wpAny_onRaise ?_))
      show wpAny _ _ (Builtin.SmallTypes.nextOf (.ref j2) >>= _) _ _ ⟨u1, gn, dr, tk1, os⟩
      refine wpAny_bind (D2.done ⟨u1, gn, dr, tk1, os⟩ _ _ (by rw [← ei2]; exact D2.over (D2.over (D2.over t2 su0 Z.zf2) sv1 Z.sep1_2) su1 Z.Tf2) fun q e sq he => ?_)
      replace sq : Heap.ExtBut j2 u1 q := sq
      obtain ⟨oe, hoe, hce⟩ := he
      replace hoe : q.get? e = some oe := hoe
      have kq : ZipAs q zz ti to .ellipsis f1 := sq _ _ Z.zi2 (su1.extBut _ _ Z.TOz.symm (sv1.extBut _ _ Z.zi1 ku0))
      have ez : e ≠ zz := fun x => by subst x; rw [kq] at hoe; cases hoe; simp at hce
      refine wpAny_setField_rec (s := ⟨q, gn, dr, tk1, os⟩) kq (by simp) fun q' _ sq' => ?_
      replace sq' : Heap.SameBut zz q q' := sq'
      exact hE q' tk1 e (fun c o cz cT c1 c2 x => sq'.extBut _ _ cz (sq _ _ c2 (su1.extBut _ _ cT (sv1.extBut _ _ c1 (su0.extBut _ _ cz x))))) ⟨oe, sq'.extBut _ _ ez hoe, hce⟩
    · have ei1 : i = n1 := by omega
      refine wpAny_bind (D1.done ⟨u0, gn, dr, tk0, os⟩ _ _ (by rw [← ei1]; exact D1.over t1 su0 Z.zf1) fun q e sq he => ?_)
      replace sq : Heap.ExtBut j1 u0 q := sq
      obtain ⟨oe, hoe, hce⟩ := he
      replace hoe : q.get? e = some oe := hoe
      have kq : ZipAs q zz ti to .ellipsis f1 := sq _ _ Z.zi1 ku0
      have ez : e ≠ zz := fun x => by subst x; rw [kq] at hoe; cases hoe; simp at hce
      refine wpAny_setField_rec (s := ⟨q, gn, dr, tk0, os⟩) kq (by simp) fun q' _ sq' => ?_
      replace sq' : Heap.SameBut zz q q' := sq'
      exact hE q' tk0 e (fun c o cz cT c1 c2 x => sq'.extBut _ _ cz (sq _ _ c1 (su0.extBut _ _ cz x))) ⟨oe, sq'.extBut _ _ ez hoe, hce⟩
  · replace su : Heap.SameBut zz hp u0 := su
    simp only [Bool.false_eq_true, if_false]
    refine wpAny_bind ?_
    rw [← Array.forIn_toList]
    simp only [List.forIn_cons, List.forIn_nil]
    refine wpAny_bind (wpAny_bind (wpAny_holding ?_))
    show wpAny _ _ (Builtin.SmallTypes.nextOf (.ref j1) >>= _) _ _ ⟨u0, gn, dr, tk0, os⟩
    by_cases l1 : i < n1
    · refine wpAny_bind (D1.item i _ _ _ l1 (D1.over t1 su Z.zf1) fun y1 v1 tk1 hy1 nt1 sv1 => wpAny_pure ?_)
      replace sv1 : Heap.SameBut j1 u0 v1 := sv1
      refine wpAny_pure ?_
      have ei2 : i = n2 := by omega
      refine wpAny_bind (wpAny_bind (wpAny_holding ?_))
      show wpAny _ _ (Builtin.SmallTypes.nextOf (.ref j2) >>= _) _ _ ⟨v1, gn, dr, tk1, os⟩
      refine wpAny_bind (D2.done ⟨v1, gn, dr, tk1, os⟩ _ _ (by rw [← ei2]; exact D2.over (D2.over t2 su Z.zf2) sv1 Z.sep1_2) fun q e sq he => ?_)
      replace sq : Heap.ExtBut j2 v1 q := sq
      exact hE q tk1 e (fun c o cz cT c1 c2 x => sq _ _ c2 (sv1.extBut _ _ c1 (su.extBut _ _ cz x))) he
    · have ei1 : i = n1 := by omega
      refine wpAny_bind (D1.done ⟨u0, gn, dr, tk0, os⟩ _ _ (by rw [← ei1]; exact D1.over t1 su Z.zf1) fun q e sq he => ?_)
      replace sq : Heap.ExtBut j1 u0 q := sq
      exact hE q tk0 e (fun c o cz cT c1 c2 x => sq _ _ c1 (su.extBut _ _ cz x)) he
theorem pyNext_one {Q : Option Value → Shared → Prop} (Z : ZipSep2 zz ti to j1 j2 fa fb) (D1 : Draws prog w A.in1 j1 fa n1 P1 S1) (D2 : Draws prog w A.in1 j2 fb n2 P2 S2)
    (kz : ZipAs s.heap zz ti to f0 f1) (ok : ZipFl f0 f1) (kti : IsTupOf2 s.heap ti (.ref j1) (.ref j2)) (kto : ∃ a b, IsTupOf2 s.heap to a b) (t1 : S1 i s.heap) (t2 : S2 i s.heap) (l1 : i < n1) (l2 : i < n2)
    (hQ : ∀ y1 y2 g' tk g0 g1, P1 i y1 → P2 i y2 → ZipAs g' zz ti to g0 g1 → ZipFl g0 g1 → (∃ a b, IsTupOf2 g' to a b) → S1 (i + 1) g' → S2 (i + 1) g' → IsTupOf2 g' s.heap.objs.size y1 y2 → g'.objs.size = s.heap.objs.size + 1 →
      (∀ c o, c ≠ zz → c ≠ to → c ≠ j1 → c ≠ j2 → s.heap.get? c = some o → g'.get? c = some o) → Q (some (.ref s.heap.objs.size)) { s with heap := g', toks := tk }) :
    wpAny (model prog w) A (pyNext (.ref zz)) Q E s := by
  have tz : s.TypeIs (.ref zz) "zip" := ⟨_, kz, rfl⟩
  unfold pyNext
  exact wpAny_bind (wpAny_attempt (wpAny_callSpecial?_slot (name := Str.ofString "__next__") tz F.slot_zip_next
    (wpAny_call_entry F.slot_zip_next tz F.entry_zip_next
      (zip_next_one Z D1 D2 kz ok kti kto t1 t2 l1 l2 fun y1 y2 g' tk g0 g1 b1 b2 b3 b4 b5 b6 b7 b8 b9 b10 => wpAny_pure (hQ y1 y2 g' tk g0 g1 b1 b2 b3 b4 b5 b6 b7 b8 b9 b10)) (F.args_zip_next_1 _))))
theorem pyNext_no {Q : Option Value → Shared → Prop} (Z : ZipSep2 zz ti to j1 j2 fa fb) (D1 : Draws prog w A.in1 j1 fa n1 P1 S1) (D2 : Draws prog w A.in1 j2 fb n2 P2 S2)
    (kz : ZipAs s.heap zz ti to f0 f1) (ok : ZipFl f0 f1) (kti : IsTupOf2 s.heap ti (.ref j1) (.ref j2)) (kto : ∃ a b, IsTupOf2 s.heap to a b) (t1 : S1 i s.heap) (t2 : S2 i s.heap) (le1 : i ≤ n1) (le2 : i ≤ n2) (hend : i = n1 ∨ i = n2)
    (hQ : ∀ g' tk, (∀ c o, c ≠ zz → c ≠ to → c ≠ j1 → c ≠ j2 → s.heap.get? c = some o → g'.get? c = some o) → Q none { s with heap := g', toks := tk }) :
    wpAny (model prog w) A (pyNext (.ref zz)) Q E s := by
  have tz : s.TypeIs (.ref zz) "zip" := ⟨_, kz, rfl⟩
  unfold pyNext
  refine wpAny_bind (wpAny_attempt (wpAny_callSpecial?_slot (name := Str.ofString "__next__") tz F.slot_zip_next
    (wpAny_call_entry F.slot_zip_next tz F.entry_zip_next (zip_next_no Z D1 D2 kz ok kti kto t1 t2 le1 le2 hend fun g' tk e fr he => ?_) (F.args_zip_next_1 _))))
  obtain ⟨o, ho, hc⟩ := he
  refine wpAny_bind (wpAny_isInstance (T := "StopIteration") (b := true) ⟨o, ho, hc⟩ isSubtype_stop ?_)
  exact wpAny_pure (hQ _ _ fr)
theorem pyIter_self {Q : Value → Shared → Prop} (kz : ZipAs s.heap zz ti to f0 f1) (h : Q (.ref zz) s) : wpAny (model prog w) A (pyIter (.ref zz)) Q E s := by
  have tz : s.TypeIs (.ref zz) "zip" := ⟨_, kz, rfl⟩
  refine wpAny_pyIter_slot tz F.slot_zip_iter (wpAny_call_entry F.slot_zip_iter tz F.entry_zip_iter ?_ (F.args_zip_iter_1 _))
  show wpAny _ _ (ret (.ref zz)) _ _ s
  exact wpAny_pure ⟨_, rfl, "zip", _, tz, F.slot_zip_next.lookup, h⟩
theorem letGo_zip {tg : Expr} {T : Addr} {Q : Unit → Shared → Prop} (kz : ZipAs s.heap zz ti to f0 f1) (ok : ZipFl f0 f1) (hQ : ∀ g' g0, ZipAs g' zz ti to g0 f1 → ZipFl g0 f1 → Heap.SameBut zz s.heap g' → Q () { s with heap := g' }) :
    wpAny (model prog w) A (letOwnedTupleGo tg (.ref zz) (.ref T)) Q E s := by
  have same : Q () s := hQ s.heap f0 kz ok (Heap.SameBut.refl _ _)
  have key : wpAny (model prog w) A (do
      let o ← load zz
      match o.cls, o.data with
      | .type n, .fields vs =>
        if ["enumerate", "zip", "dict_itemiterator", "dict_reverseitemiterator", "odict_iterator", "itertools.zip_longest", "itertools.pairwise"].contains n && vs[0]? == some (rawInt T) then
          rule "for.unpacks-the-owned-tuple"
          updateField zz 0 .none
      | _, _ => pure () : Sem Unit) Q E s := by
    refine wpAny_bind (wpAny_load kz ?_)
    show wpAny _ _ (if (["enumerate", "zip", "dict_itemiterator", "dict_reverseitemiterator", "odict_iterator", "itertools.zip_longest", "itertools.pairwise"].contains "zip" && (#[f0, f1, .bool false, .ref ti, .ref to] : Array Value)[0]? == some (rawInt T)) = true then _ else _) Q E s
    split
    · refine wpAny_bind (wpAny_rule ?_)
      show wpAny _ _ (setField (.ref zz) 0 .none) Q E s
      obtain ⟨f, e1, _⟩ := ok
      exact wpAny_setField_rec kz (by simp) fun g' kg sg => hQ g' .none kg ⟨f, e1, .inl rfl⟩ sg
    · exact wpAny_pure same
  cases tg <;> first | exact key | exact wpAny_pure same
end
end FZ

set_option Elab.async false
set_option linter.all false
set_option maxRecDepth 100000
set_option autoImplicit false
namespace FZ
open PySem
open PySem.Sem (wp)
theorem zip_no_len : typeLookup (.type "zip") "__len__" = pure none := by rw [typeLookup_type, builtinLookup_eq_fast]; kernel_rfl
theorem zip_no_hint : typeLookup (.type "zip") "__length_hint__" = pure none := by rw [typeLookup_type, builtinLookup_eq_fast]; kernel_rfl
section
variable {prog : Program} {w : World} {A : Around} {zz ti to j1 j2 : Addr} {fa fb : List Addr} {n1 n2 : Nat} {P1 P2 : Nat → Value → Prop} {S1 S2 : Nat → Heap → Prop}
structure ZSt (zz ti to j1 j2 : Addr) (S1 S2 : Nat → Heap → Prop) (i : Nat) (h : Heap) : Prop where
  z : ∃ f0 f1, ZipAs h zz ti to f0 f1 ∧ ZipFl f0 f1
  ti : IsTupOf2 h ti (.ref j1) (.ref j2)
  to : ∃ a b, IsTupOf2 h to a b
  s1 : S1 i h
  s2 : S2 i h
theorem ZSt.keep (D1 : Draws prog w A j1 fa n1 P1 S1) (D2 : Draws prog w A j2 fb n2 P2 S2) {i : Nat} {h h' : Heap} (st : ZSt zz ti to j1 j2 S1 S2 i h) (k : ∀ b ∈ zz :: ti :: to :: (fa ++ fb), ∀ o, h.get? b = some o → h'.get? b = some o) : ZSt zz ti to j1 j2 S1 S2 i h' := by
  obtain ⟨⟨f0, f1, kz, ok⟩, kt, ⟨a, b, ko⟩, t1, t2⟩ := st
  exact ⟨⟨f0, f1, k _ (by simp) _ kz, ok⟩, k _ (by simp) _ kt, ⟨a, b, k _ (by simp) _ ko⟩, D1.frame _ _ _ t1 fun b hb o e => k b (by simp [hb]) o e, D2.frame _ _ _ t2 fun b hb o e => k b (by simp [hb]) o e⟩
/-- the items so far: new pairs -/
def Prs (P1 P2 : Nat → Value → Prop) (Old : Addr → Prop) (no : List Addr) (h : Heap) (acc : Array Value) (i : Nat) : Prop := acc.size = i ∧ (∀ j v, acc[j]? = some v → ∃ T y1 y2, v = .ref T ∧ IsTupOf2 h T y1 y2 ∧ P1 j y1 ∧ P2 j y2 ∧ T ∉ no ∧ ¬ Old T) ∧ ∀ (j j' : Nat) (v : Value), acc[j]? = some v → acc[j']? = some v → j = j'
theorem Prs.keep {Old : Addr → Prop} {no : List Addr} {h h' : Heap} {acc : Array Value} {i : Nat} (p : Prs P1 P2 Old no h acc i) (k : ∀ b o, b ∉ no → h.get? b = some o → h'.get? b = some o) : Prs P1 P2 Old no h' acc i :=
  ⟨p.1, fun j v e => let ⟨T, y1, y2, a, b, c, d, n, q⟩ := p.2.1 j v e; ⟨T, y1, y2, a, k _ _ n b, c, d, n, q⟩, p.2.2⟩
theorem ext_zip {Sx : Addr} {Old : Addr → Prop} {R : Result → Shared → Prop} (Z : ZipSep2 zz ti to j1 j2 fa fb) (D1 : Draws prog w A.in1.in1 j1 fa n1 P1 S1) (D2 : Draws prog w A.in1.in1 j2 fb n2 P2 S2) (res : Value) (hn : min n1 n2 ≤ sizeLine) (hS : Sx ∉ zz :: ti :: to :: (fa ++ fb)) :
    ∀ (k i : Nat) (s : Shared) (acc : Array Value) (c : Nat), min n1 n2 - i = k → i ≤ min n1 n2 → ZSt zz ti to j1 j2 S1 S2 i s.heap → s.heap.get? Sx = some { cls := .type "list", dict := none, data := .seq acc c, slots := #[] } → Prs P1 P2 Old [Sx, zz, to, j1, j2] s.heap acc i → (∀ b, Old b → b ∉ [Sx, zz, to, j1, j2] → ∃ o, s.heap.get? b = some o) →
      (∀ h' tk acc' c', (∀ b o, b ∉ [Sx, zz, to, j1, j2] → s.heap.get? b = some o → h'.get? b = some o) → h'.get? Sx = some { cls := .type "list", dict := none, data := .seq acc' c', slots := #[] } → Prs P1 P2 Old [Sx, zz, to, j1, j2] h' acc' (min n1 n2) → R (.ok (.ret res)) { s with heap := h', toks := tk }) →
      codeAny (model prog w) A (.builtin "list.extend.loop" ⟨[.ref Sx, .ref zz, res], []⟩) R s := by
  simp only [List.mem_cons, List.mem_append, not_or] at hS
  obtain ⟨nz, nti, nto, na, nb⟩ := hS
  have n1' : Sx ≠ j1 := fun e => na (e ▸ Z.mem1)
  have n2' : Sx ≠ j2 := fun e => nb (e ▸ Z.mem2)
  intro k
  induction k with
  | zero =>
    intro i s acc c hk hi st hSx pr hO hR
    have ei : i = min n1 n2 := by omega
    obtain ⟨⟨f0, f1, kz, ok⟩, kt, ko, t1, t2⟩ := st
    refine codeAny_builtin F.entry_extend_loop ?_
    rw [Around.under_plainId F.plain_extend_loop _]
    show wpAny _ A.in1 (pyNext (.ref zz) >>= fun _ => _) _ _ s
    refine wpAny_bind (pyNext_no Z D1 D2 kz ok kt ko t1 t2 (by omega) (by omega) (by omega) fun g' tk fr => ?_)
    have fr' : ∀ b o, b ∉ [Sx, zz, to, j1, j2] → s.heap.get? b = some o → g'.get? b = some o := fun b o hb e => by
      simp only [List.mem_cons, List.not_mem_nil, or_false, not_or] at hb
      exact fr b o hb.2.1 hb.2.2.1 hb.2.2.2.1 hb.2.2.2.2 e
    exact wpAny_pure (hR g' tk acc c fr' (fr _ _ nz nto n1' n2' hSx) (by rw [← ei]; exact pr.keep fr'))
  | succ k ih =>
    intro i s acc c hk hi st hSx pr hO hR
    have hlt : i < min n1 n2 := by omega
    obtain ⟨⟨f0, f1, kz, ok⟩, kt, ko, t1, t2⟩ := st
    refine codeAny_builtin F.entry_extend_loop ?_
    rw [Around.under_plainId F.plain_extend_loop _]
    show wpAny _ A.in1 (pyNext (.ref zz) >>= fun _ => _) _ _ s
    have old : ∀ {b o}, s.heap.get? b = some o → s.heap.objs.size ≠ b := fun e => Nat.ne_of_gt (Heap.lt_size e)
    refine wpAny_bind (pyNext_one Z D1 D2 kz ok kt ko t1 t2 (by omega) (by omega) fun y1 y2 g' tk g0 g1 p1 p2 kz' ok' ko' t1' t2' kT sz fr => ?_)
    have kS' := fr _ _ nz nto n1' n2' hSx
    show wpAny _ A.in1 (updateSeq Sx (·.push (.ref s.heap.objs.size)) >>= _) _ _ _
    refine wpAny_bind ?_
    have fr' : ∀ b o, b ∉ [Sx, zz, to, j1, j2] → s.heap.get? b = some o → (g'.update Sx (Obj.mapSeq (·.push (.ref s.heap.objs.size)))).get? b = some o := fun b o hb e => by
      simp only [List.mem_cons, List.not_mem_nil, or_false, not_or] at hb
      exact (Heap.get?_update_other _ _ (Ne.symm hb.1)).trans (fr b o hb.2.1 hb.2.2.1 hb.2.2.2.1 hb.2.2.2.2 e)
    have over : ∀ {b o}, b ≠ Sx → g'.get? b = some o → (g'.update Sx (Obj.mapSeq (·.push (.ref s.heap.objs.size)))).get? b = some o := fun hb e => (Heap.get?_update_other _ _ (Ne.symm hb)).trans e
    have hT : s.heap.objs.size ∉ [Sx, zz, to, j1, j2] := by
      obtain ⟨a, b, ko⟩ := ko
      obtain ⟨_, e1⟩ := D1.live _ _ t1
      obtain ⟨_, e2⟩ := D2.live _ _ t2
      simp only [List.mem_cons, List.not_mem_nil, or_false, not_or]
      exact ⟨old hSx, old kz, old ko, old e1, old e2⟩
    have hTS : s.heap.objs.size ≠ Sx := old hSx
    refine wpAny_updateSeq kS' rfl (wpAny_pure ⟨plainId_quiet F.plain_extend_loop _, ih (i + 1) _ (acc.push (.ref s.heap.objs.size)) _ (by omega) (by omega) ?_ (Heap.get?_update_self _ kS' rfl) ?_ (fun b ob hb => let ⟨o, e⟩ := hO b ob hb; ⟨o, fr' b o hb e⟩) fun h'' tk'' acc' c' fr'' hS'' pr'' => ?_⟩)
      (by rw [pr.1]; omega) (by show (acc.push _).size ≤ sizeLine + 1; rw [Array.size_push, pr.1]; omega)
    · exact ⟨⟨g0, g1, over (Ne.symm nz) kz', ok'⟩, over (Ne.symm nti) (fr _ _ Z.TIz Z.TITO Z.TIi1 Z.TIi2 kt), let ⟨a, b, e⟩ := ko'; ⟨a, b, over (Ne.symm nto) e⟩,
        D1.frame _ _ _ t1' fun b hb o e => over (fun q => na (q ▸ hb)) e, D2.frame _ _ _ t2' fun b hb o e => over (fun q => nb (q ▸ hb)) e⟩
    · have fresh : ∀ (j : Nat), acc[j]? ≠ some (.ref s.heap.objs.size) := fun j e => by
        obtain ⟨T, z1, z2, a, b, _⟩ := pr.2.1 j _ e
        cases a
        exact Nat.lt_irrefl _ (Heap.lt_size b)
      refine ⟨by rw [Array.size_push, pr.1], fun j v e => ?_, fun j j' v e e' => ?_⟩
      · rw [Array.getElem?_push] at e
        split at e
        · rename_i ej
          cases e
          have ej' : j = i := by rw [ej, pr.1]
          subst ej'
          exact ⟨_, y1, y2, rfl, over hTS kT, p1, p2, hT, fun q => let ⟨o, e⟩ := hO _ q hT; Nat.lt_irrefl _ (Heap.lt_size e)⟩
        · obtain ⟨T, z1, z2, a, b, c, d, n, q⟩ := pr.2.1 j v e
          exact ⟨T, z1, z2, a, fr' _ _ n b, c, d, n, q⟩
      · rw [Array.getElem?_push] at e e'
        split at e
        · rename_i ej
          cases e
          split at e'
          · rename_i ej'
            rw [ej, ej']
          · exact absurd e' (fresh j')
        · split at e'
          · cases e'
            exact absurd e (fresh j)
          · exact pr.2.2 j j' v e e'
    · exact hR h'' tk'' acc' c' (fun b o hb e => fr'' b o hb (fr' b o hb e)) hS'' pr''
variable {E : Value → Shared → Prop} {s : Shared}
theorem call_list_zip {Old : Addr → Prop} {Q : Value → Shared → Prop} (Z : ZipSep2 zz ti to j1 j2 fa fb) (D1 : Draws prog w A.in1.in1.in1 j1 fa n1 P1 S1) (D2 : Draws prog w A.in1.in1.in1 j2 fb n2 P2 S2) (hn : min n1 n2 ≤ sizeLine) (st : ZSt zz ti to j1 j2 S1 S2 0 s.heap) (lo : ∀ b ∈ zz :: ti :: to :: (fa ++ fb), b < s.heap.objs.size) (hO : ∀ b, Old b → ∃ o, s.heap.get? b = some o)
    (hQ : ∀ h' tk acc' c', (∀ b o, b ∉ [zz, to, j1, j2] → s.heap.get? b = some o → h'.get? b = some o) → h'.get? s.heap.objs.size = some { cls := .type "list", dict := none, data := .seq acc' c', slots := #[] } →
      Prs P1 P2 Old [s.heap.objs.size, zz, to, j1, j2] h' acc' (min n1 n2) → Q (.ref s.heap.objs.size) { s with heap := h', toks := tk }) :
    wpAny (model prog w) A (call (.type "list") [.ref zz]) Q E s := by
  have hS : s.heap.objs.size ∉ zz :: ti :: to :: (fa ++ fb) := fun hm => Nat.lt_irrefl _ (lo _ hm)
  refine callType_codes (Q₁ := fun obj s₁ => obj = .ref s.heap.objs.size ∧ s₁ = { s with heap := s.heap.push { cls := .type "list", data := .seq #[] } }) F.called_list (F.typeCall_list_1 _) F.entry_list_init
    (code_list_new _ ⟨rfl, rfl⟩) fun obj s₁ h₁ => ?_
  obtain ⟨rfl, rfl⟩ := h₁
  have gS : (s.heap.push { cls := .type "list", data := .seq #[] }).get? s.heap.objs.size = some { cls := .type "list", data := .seq #[] } := Heap.get?_push_size _ rfl
  refine ⟨⟨_, gS, rfl⟩, F.args_list_init_2 _ _, ?_⟩
  have push : ∀ {b o}, s.heap.get? b = some o → (s.heap.push { cls := .type "list", data := .seq #[] }).get? b = some o := fun e => Heap.get?_push_of_some _ e
  have st1 := st.keep D1 D2 fun b _ o e => push e
  show wpAny _ A.in1.in1 (do let old ← Builtin.List.listItems (.ref s.heap.objs.size); Builtin.List.listUpdate (.ref s.heap.objs.size) (fun _ => #[]); letGo old.toList.reverse; Builtin.List.listExtendWith (.ref s.heap.objs.size) (.ref zz) .none) _ _ _
  refine wpAny_bind ?_
  unfold Builtin.List.listItems
  refine wpAny_bind (wpAny_seqItems gS rfl (wpAny_pure ?_))
  show wpAny _ _ (updateSeq s.heap.objs.size (fun _ => #[]) >>= fun _ => letGo (#[] : Array Value).toList.reverse >>= fun _ => Builtin.List.listExtendWith (.ref s.heap.objs.size) (.ref zz) .none) _ _ _
  refine wpAny_bind (wpAny_updateSeq gS rfl ?_)
  have gS2 := Heap.get?_update_self (Obj.mapSeq (fun _ => (#[] : Array Value))) gS rfl
  refine wpAny_bind (wpAny_letGo ?_)
  unfold Builtin.List.listExtendWith
  have oth2 : ∀ b o, b ≠ s.heap.objs.size → s.heap.get? b = some o → ((s.heap.push { cls := .type "list", data := .seq #[] }).update s.heap.objs.size (Obj.mapSeq (fun _ => (#[] : Array Value)))).get? b = some o :=
    fun b o hb e => (Heap.get?_update_other _ _ (Ne.symm hb)).trans (push e)
  have st2 := st.keep D1 D2 fun b hb o e => oth2 b o (fun q => hS (q ▸ hb)) e
  obtain ⟨f0, f1, kz2, ok2⟩ := st2.z
  refine wpAny_bind (wpAny_typeOf (T := "zip") ⟨_, kz2, rfl⟩ ?_)
  have g1 : Builtin.List.listSameRef (.ref s.heap.objs.size) (.ref zz) = false := by
    have : s.heap.objs.size ≠ zz := fun e => hS (by rw [e]; simp)
    simp [Builtin.List.listSameRef, this]
  have g2 : (Value.type "zip" == Value.type "list") = false := by decide
  have g3 : (Value.type "zip" == Value.type "tuple") = false := by decide
  simp only [g1, g2, g3, Bool.or_false, Bool.false_eq_true, if_false]
  refine wpAny_bind (pyIter_self kz2 ?_)
  refine wpAny_bind (wpAny_holding ?_)
  unfold Builtin.List.listLengthHint
  refine wpAny_bind (wpAny_specialOf (T := "zip") ⟨_, kz2, rfl⟩ zip_no_len ?_)
  show wpAny _ _ (specialOf (Value.ref zz) (Str.ofString "__length_hint__") >>= _) _ _ _
  refine wpAny_bind (wpAny_specialOf (T := "zip") ⟨_, kz2, rfl⟩ zip_no_hint ?_)
  refine wpAny_pure ?_
  show wpAny _ _ (rule "list.extend.makes-room" >>= fun _ => Builtin.List.listTouch (.ref s.heap.objs.size) >>= fun _ => again (.builtin "list.extend.loop" ⟨[.ref s.heap.objs.size, .ref zz, .none], []⟩)) _ _ _
  refine wpAny_bind (wpAny_rule ?_)
  refine wpAny_bind ?_
  show wpAny _ _ (updateSeq s.heap.objs.size (·.push .none) >>= fun _ => updateSeq s.heap.objs.size (·.pop)) _ _ _
  refine wpAny_bind (wpAny_updateSeq gS2 rfl ?_)
  have gS3 := Heap.get?_update_self (Obj.mapSeq (·.push Value.none)) gS2 rfl
  refine wpAny_updateSeq (hz := by seq_fits) gS3 rfl ?_
  have gS4 := Heap.get?_update_self (Obj.mapSeq (·.pop)) gS3 rfl
  have oth4 : ∀ b o, b ≠ s.heap.objs.size → s.heap.get? b = some o → ((((s.heap.push { cls := .type "list", data := .seq #[] }).update s.heap.objs.size (Obj.mapSeq (fun _ => (#[] : Array Value)))).update s.heap.objs.size (Obj.mapSeq (·.push Value.none))).update s.heap.objs.size (Obj.mapSeq (·.pop))).get? b = some o :=
    fun b o hb e => (Heap.get?_update_other _ _ (Ne.symm hb)).trans ((Heap.get?_update_other _ _ (Ne.symm hb)).trans (oth2 b o hb e))
  refine wpAny_pure ⟨plainId_quiet F.plain_extend_loop _, ext_zip (A := A.in1) Z D1 D2 .none hn hS _ 0 _ #[] _ rfl (Nat.zero_le _) (st.keep D1 D2 fun b hb o e => oth4 b o (fun q => hS (q ▸ hb)) e) gS4 ⟨rfl, fun j v e => by simp at e, fun j j' v e => by simp at e⟩ (fun b ob hb => let ⟨o, e⟩ := hO b ob; ⟨o, oth4 b o (Nat.ne_of_lt (Heap.lt_size e)) e⟩) fun h' tk acc' c' fr hS' pr => ?_⟩
  refine ⟨rfl, hQ h' tk acc' c' (fun b o hb e => fr b o (fun hm => ?_) (oth4 b o (Nat.ne_of_lt (Heap.lt_size e)) e)) hS' pr⟩
  rcases List.mem_cons.mp hm with q | q
  · exact Nat.ne_of_lt (Heap.lt_size e) q
  · exact hb q
end
end FZ

set_option Elab.async false
set_option linter.all false
set_option maxRecDepth 100000
set_option autoImplicit false
namespace FL
open PySem PySem.Spec PyProof.Rows L2 FZ

/-! ## lists and tuples alike -/
def SqB (t : Bool) (K : PySem.W.Frag) (H : Hp) (p : Addr) (xs : List V) : Prop := match t with | true => SqT K H p xs | false => SqL K H p xs
def IsSq (t : Bool) (h : Heap) (p : Addr) (items : Array Value) : Prop := match t with | true => h.IsTuple p items | false => h.IsList p items
def IsIt (t : Bool) (h : Heap) (it p : Addr) (i : Nat) : Prop := match t with | true => h.IsTupleIter it p i | false => h.IsListIter it p i
def itObj (t : Bool) (p : Addr) : Obj := match t with | true => { cls := .type "tuple_iterator", data := .fields #[.ref p, .int 0 0] } | false => { cls := .type "list_iterator", data := .fields #[.ref p, .int 0 0] }
theorem IsSq.at {t : Bool} {h h' : Heap} {p : Addr} {items : Array Value} (x : IsSq t h p items) (e : ∀ o, h.get? p = some o → h'.get? p = some o) : IsSq t h' p items := by
  cases t with
  | true => exact Heap.IsTuple.at (show h.IsTuple p items from x) e
  | false => exact Heap.IsList.at (show h.IsList p items from x) e
theorem IsIt.at {t : Bool} {h h' : Heap} {it p : Addr} {i : Nat} (x : IsIt t h it p i) (e : ∀ o, h.get? it = some o → h'.get? it = some o) : IsIt t h' it p i := by
  cases t with
  | true => exact Heap.IsTupleIter.at (show h.IsTupleIter it p i from x) e
  | false => exact Heap.IsListIter.at (show h.IsListIter it p i from x) e
theorem IsIt.obj {t : Bool} {h : Heap} {it p : Addr} {i : Nat} (x : IsIt t h it p i) : ∃ o, h.get? it = some o ∧ ∀ v, o.data ≠ .cell v := by
  cases t with
  | true => obtain ⟨o, e, _, d⟩ := (show h.IsTupleIter it p i from x); exact ⟨o, e, fun v q => by rw [d] at q; cases q⟩
  | false => obtain ⟨o, e, _, d⟩ := (show h.IsListIter it p i from x); exact ⟨o, e, fun v q => by rw [d] at q; cases q⟩
theorem IsIt.new {t : Bool} {h : Heap} {it p : Addr} (e : h.get? it = some (itObj t p)) : IsIt t h it p 0 := by
  cases t with
  | true => exact ⟨_, e, rfl, rfl⟩
  | false => exact ⟨_, e, rfl, rfl⟩
theorem sq_begins (t : Bool) (p : Addr) (items : Array Value) : Begins (.ref p) (itObj t p) fun h => IsSq t h p items := by
  cases t with
  | true => exact begins_tuple p items
  | false => exact begins_list p items
theorem sq_draws {prog : Program} {w : World} {A : Around} (hh : A.handled = none) (t : Bool) (it p : Addr) (hne : p ≠ it) (items : Array Value) : Draws prog w A it [it, p] items.size (fun i v => items[i]? = some v) (fun i h => IsIt t h it p i ∧ IsSq t h p items) := by
  cases t with
  | true => exact .tuple hh it p hne items
  | false => exact .list hh it p hne items
section
variable {X : Cx} {pins : List (Addr × Obj)} {σ : L2.St} {H : Hp} {s : Shared}
theorem sq_at {t : Bool} {p : Addr} {xs : List V} (I : Inv X pins σ H s) (h : SqB t X.K H p xs) : ∃ its : List Value, Vals xs its ∧ IsSq t s.heap p its.toArray ∧ xs.length ≤ sizeLine ∧ p < s.heap.objs.size := by
  cases t with
  | true =>
    obtain ⟨its, r, q, z⟩ := I.tuple (show SqT X.K H p xs from h)
    exact ⟨its, r, q, z, let ⟨_, e, _⟩ := q; Heap.lt_size e⟩
  | false =>
    obtain ⟨its, r, q, z⟩ := I.list (show SqL X.K H p xs from h)
    exact ⟨its, r, q.isList, z, q.lt⟩
theorem sq_inj {t : Bool} {p : Addr} {xs ys : List V} (I : Inv X pins σ H s) (h : SqB t X.K H p xs) (h' : SqB t X.K H p ys) : xs = ys := by
  cases t with
  | true => exact I.tuple_inj h h'
  | false => exact I.list_inj h h'
end
/-! ## zip of two of them, to any target -/
def ItzB (K : PySem.W.Frag) (t1 t2 : Bool) (a b : Addr) : It :=
  ⟨fun i H => ∃ (xs ys : List V) (x y : V), SqB t1 K H a xs ∧ SqB t2 K H b ys ∧ xs[i]? = some x ∧ ys[i]? = some y,
    fun i H v H' => ∃ T x y, v = .ref T ∧ H T = none ∧ H' = upd H T (.tup [x, y]) ∧ (∀ xs, SqB t1 K H a xs → xs[i]? = some x) ∧ ∀ ys, SqB t2 K H b ys → ys[i]? = some y,
    fun i H => ∃ xs ys : List V, SqB t1 K H a xs ∧ SqB t2 K H b ys ∧ i ≤ xs.length ∧ i ≤ ys.length ∧ (i = xs.length ∨ i = ys.length)⟩
theorem mem5 {c z a b i j : Addr} (h : c ∈ [z, a, b, i, j]) : c = z ∨ c = a ∨ c = b ∨ c = i ∨ c = j := by simpa using h
theorem turn_zipB {P : Program} {w : World} {K : PySem.W.Frag} {tg : Expr} {t1 t2 : Bool} {a b z TI TO i1 i2 : Addr} (D : ZipSep2 z TI TO i1 i2 [i1, a] [i2, b]) (n1 : a ≠ i1) (n2 : b ≠ i2) :
    Turn P w K tg (ItzB K t1 t2 a b) [z, TI, TO, i1, i2] z (fun i h => (∃ f0 f1, ZipAs h z TI TO f0 f1 ∧ ZipFl f0 f1) ∧ IsTupOf2 h TI (.ref i1) (.ref i2) ∧ (∃ x y, IsTupOf2 h TO x y) ∧ IsIt t1 h i1 a i ∧ IsIt t2 h i2 b i) where
  mem := by simp
  obj := fun i h st c hc => by
    obtain ⟨⟨f0, f1, hz, _⟩, hTI, ⟨x, y, hTO⟩, h1, h2⟩ := st
    rcases mem5 hc with q | q | q | q | q
    · rw [q]; exact ⟨_, hz, fun v q => nomatch q⟩
    · rw [q]; exact ⟨_, hTI, fun v q => nomatch q⟩
    · rw [q]; exact ⟨_, hTO, fun v q => nomatch q⟩
    · rw [q]; exact h1.obj
    · rw [q]; exact h2.obj
  keep := fun i h h' st k => by
    obtain ⟨⟨f0, f1, hz, ok⟩, hTI, ⟨x, y, hTO⟩, h1, h2⟩ := st
    exact ⟨⟨f0, f1, k z (by simp) _ hz, ok⟩, k TI (by simp) _ hTI, ⟨x, y, k TO (by simp) _ hTO⟩, h1.at fun o q => k i1 (by simp) o q, h2.at fun o q => k i2 (by simp) o q⟩
  item := by
    intro X hP hw hK hc i pins s σ H E I hf st hg
    subst hP hw hK
    obtain ⟨⟨f0, f1, hz, ok⟩, hTI, hTO, h1, h2⟩ := st
    obtain ⟨xs, ys, x, y, hqx, hqy, hx, hy⟩ := hg
    obtain ⟨its, rv, p, _, _⟩ := sq_at I hqx
    obtain ⟨its2, rv2, p2, _, _⟩ := sq_at I hqy
    obtain ⟨u, hu, ru⟩ := rv.get hx
    obtain ⟨u2, hu2, ru2⟩ := rv2.get hy
    have hzl : z < s.heap.objs.size := Heap.lt_size hz
    have d1 := sq_draws (prog := X.prog) (w := X.w) (A := X.A.in1) (I.ok.hd hc) t1 i1 a n1 its.toArray
    have d2 := sq_draws (prog := X.prog) (w := X.w) (A := X.A.in1) (I.ok.hd hc) t2 i2 b n2 its2.toArray
    refine pyNext_one D d1 d2 hz ok hTI hTO ⟨h1, p⟩ ⟨h2, p2⟩ (by simpa using (List.getElem?_eq_some_iff.mp hu).1) (by simpa using (List.getElem?_eq_some_iff.mp hu2).1) fun y1 y2 g' tk g0 g1 e1 e2 kz ok' kto s1 s2 kT sz fr => ?_
    have ey1 : y1 = u := by
      have e1' : its.toArray[i]? = some y1 := e1
      simp at e1'
      rw [hu] at e1'
      exact (Option.some.inj e1').symm
    have ey2 : y2 = u2 := by
      have e2' : its2.toArray[i]? = some y2 := e2
      simp at e2'
      rw [hu2] at e2'
      exact (Option.some.inj e2').symm
    subst ey1
    subst ey2
    refine ⟨_, rfl, letGo_zip (s := { s with heap := g', toks := tk }) kz ok' fun g'' g0' kz2 ok2 sb => ?_⟩
    have sb' : Heap.SameBut z g' g'' := sb
    have kT2 : IsTupOf2 g'' s.heap.objs.size y1 y2 := (sb'.2 _ (Nat.ne_of_gt hzl)).trans kT
    have new : ObjOk X.prog X.w (upd H s.heap.objs.size (.tup [x, y])) g'' s.heap.objs.size (.tup [x, y]) :=
      ⟨by show 2 ≤ sizeLine; decide, [y1, y2], .cons ru (.cons ru2 .nil), ⟨_, kT2, rfl, _, rfl⟩⟩
    have I1 : Inv X pins σ (upd H s.heap.objs.size (.tup [x, y])) { s with heap := g'', toks := tk } :=
      I.turnedNew (t' := tk) (ch := [z, TI, TO, i1, i2]) (fun c o hb q => (sb'.2 c (fun q' => hb (by simp [q']))).trans (fr c o (fun q' => hb (by simp [q'])) (fun q' => hb (by simp [q'])) (fun q' => hb (by simp [q'])) (fun q' => hb (by simp [q'])) q)) hf (Nat.le_refl _) new
    refine ⟨.ref s.heap.objs.size, _, I1, rfl, ⟨_, x, y, rfl, I.hok.fresh (Nat.le_refl _), rfl, fun l hl => by rw [sq_inj I hl hqx]; exact hx, fun l hl => by rw [sq_inj I hl hqy]; exact hy⟩, ⟨⟨g0', g1, kz2, ok2⟩, ?_, ?_, ?_, ?_⟩, fun c hcm => ?_⟩
    · exact (sb'.2 _ D.TIz).trans (fr _ _ D.TIz D.TITO D.TIi1 D.TIi2 hTI)
    · obtain ⟨v1, v2, e⟩ := kto
      exact ⟨v1, v2, (sb'.2 _ D.TOz).trans e⟩
    · exact s1.1.at fun o q => (sb'.2 _ (Ne.symm D.zi1)).trans q
    · exact s2.1.at fun o q => (sb'.2 _ (Ne.symm D.zi2)).trans q
    · have hlt : c < s.heap.objs.size := by
        rcases mem5 hcm with q | q | q | q | q
        · rw [q]; exact hzl
        · rw [q]; exact Heap.lt_size hTI
        · rw [q]; obtain ⟨_, _, e⟩ := hTO; exact Heap.lt_size e
        · rw [q]; obtain ⟨_, e1, _⟩ := h1.obj; exact Heap.lt_size e1
        · rw [q]; obtain ⟨_, e2, _⟩ := h2.obj; exact Heap.lt_size e2
      rw [upd_ne (Nat.ne_of_lt hlt)]
      exact (hf c hcm).1
  done := by
    intro X hP hw hK hc i pins s σ H E I hf st hg
    subst hP hw hK
    obtain ⟨⟨f0, f1, hz, ok⟩, hTI, hTO, h1, h2⟩ := st
    obtain ⟨xs, ys, hqx, hqy, le1, le2, hend⟩ := hg
    obtain ⟨its, rv, p, _, _⟩ := sq_at I hqx
    obtain ⟨its2, rv2, p2, _, _⟩ := sq_at I hqy
    have l1 := rv.length
    have l2 := rv2.length
    have d1 := sq_draws (prog := X.prog) (w := X.w) (A := X.A.in1) (I.ok.hd hc) t1 i1 a n1 its.toArray
    have d2 := sq_draws (prog := X.prog) (w := X.w) (A := X.A.in1) (I.ok.hd hc) t2 i2 b n2 its2.toArray
    refine pyNext_no D d1 d2 hz ok hTI hTO ⟨h1, p⟩ ⟨h2, p2⟩ (by simp; omega) (by simp; omega) (by simp; omega) fun g' tk fr => ?_
    exact ⟨rfl, I.turnedL (t' := tk) (ch := [z, TI, TO, i1, i2]) (fun c o hb q =>
      fr c o (fun q' => hb (by simp [q'])) (fun q' => hb (by simp [q'])) (fun q' => hb (by simp [q'])) (fun q' => hb (by simp [q'])) q) hf⟩
  self := fun A i s Q E st h => let ⟨⟨_, _, kz, _⟩, _⟩ := st; pyIter_self kz h
def iZipB (K : PySem.W.Frag) (ta : TA) : TI := fun σ H R => ta σ H fun vs H1 => ∃ t1 t2 a b xs ys, vs = [.ref a, .ref b] ∧ SqB t1 K H1 a xs ∧ SqB t2 K H1 b ys ∧ R (ItzB K t1 t2 a b) H1
theorem lt1 {N a : Addr} (h : a < N) : ∀ b ∈ [a], b < N := fun b hb => by rw [List.mem_singleton.mp hb]; exact h
theorem pi_zipB {X : Cx} {tg e e2 : Expr} {ta : TA} {p pos : Pos} (hg : Gl X "zip") (hm : X.mg "zip" = none) (ha : PA X [e, e2] ta)
    (hs : starEach [e, e2] X.env = (false, eval e X.env) :: starEach [e2] X.env := by rfl) (hpl : (backTo pos (starEach [e2] X.env)).any (·.1) = false := by rfl) :
    PI X tg (.Call (.Name "zip" p) [e, e2] [] pos) (iZipB X.K ta) := by
  refine ⟨fun pins s σ H R I h => ?_⟩
  refine Call_ (ld_blt I hg hm PyProof.Rows.boot_zip (PyProof.Rows.callWith_type1 (thn (ha.run pos pins s σ H _ I h) fun us s1 ⟨vs, H1, I1, r1, q1⟩ => ?_) hs hpl))
  obtain ⟨t1, t2, a, b, xs, ys, ex, hqx, hqy, q⟩ := q1
  subst ex
  obtain ⟨u1, u2, rfl, ra, rb⟩ := vals2 r1
  cases ra
  cases rb
  obtain ⟨its, rv, p1, _, la⟩ := sq_at I1 hqx
  obtain ⟨its2, rv2, p2, _, lb⟩ := sq_at I1 hqy
  have fresh5 : ∀ c, c ∈ [s1.heap.objs.size + 4, s1.heap.objs.size + 2, s1.heap.objs.size + 3, s1.heap.objs.size, s1.heap.objs.size + 1] → FpOk X pins H1 c := fun c hcm => by
    have hle : s1.heap.objs.size ≤ c := by
      rcases mem5 hcm with z | z | z | z | z
      · rw [z]; exact Nat.le_add_right _ _
      · rw [z]; exact Nat.le_add_right _ _
      · rw [z]; exact Nat.le_add_right _ _
      · rw [z]; exact Nat.le_refl _
      · rw [z]; exact Nat.le_add_right _ _
    exact I1.fpOk hle (I1.hok.fresh hle)
  refine zip_begins2 (sq_begins t1 a its.toArray) (sq_begins t2 b its2.toArray) p1 p2 fun h' hz hTI hTO h1 h2 hsz hk => pyIter_self (f0 := .none) (f1 := .bool false) hz ?_
  have I2 : Inv X pins σ H1 { s1 with heap := h' } := I1.kept (t' := s1.toks) hk
  exact ⟨s1.heap.objs.size + 4, _, _, _, H1, rfl, I2, turn_zipB (zip_sep2 (lt1 la) (lt1 lb)) (Nat.ne_of_lt la) (Nat.ne_of_lt (Nat.lt_succ_of_lt lb)), ⟨⟨_, _, hz, ⟨_, rfl, .inl rfl⟩⟩, hTI, ⟨_, _, hTO⟩, .new h1, .new h2⟩, fresh5, q⟩
/-! ## list(zip(a, b)) -/
/-- many new objects -/
def lay : List (Addr × HO) → Hp → Hp
  | [], H => H
  | p :: r, H => upd (lay r H) p.1 p.2
theorem lay_not {l : List (Addr × HO)} {H : Hp} {a : Addr} (h : a ∉ l.map (·.1)) : lay l H a = H a := by
  induction l with
  | nil => rfl
  | cons p r ih =>
    simp only [List.map_cons, List.mem_cons, not_or] at h
    unfold lay
    rw [upd_ne h.1, ih h.2]
theorem lay_in {l : List (Addr × HO)} {H : Hp} (hn : (l.map (·.1)).Nodup) {a : Addr} {o : HO} (h : (a, o) ∈ l) : lay l H a = some o := by
  induction l with
  | nil => simp at h
  | cons p r ih =>
    simp only [List.map_cons, List.nodup_cons] at hn
    unfold lay
    rcases List.mem_cons.mp h with e | e
    · subst e
      exact upd_same
    · have : a ≠ p.1 := fun q => hn.1 (by rw [← q]; exact List.mem_map.mpr ⟨_, e, rfl⟩)
      rw [upd_ne this]
      exact ih hn.2 e
theorem lay_some {l : List (Addr × HO)} {H : Hp} {a : Addr} {o : HO} (h : lay l H a = some o) : H a = some o ∨ (a, o) ∈ l := by
  induction l with
  | nil => exact .inl h
  | cons p r ih =>
    unfold lay at h
    by_cases e : a = p.1
    · subst e
      rw [upd_same] at h
      cases h
      exact .inr (List.mem_cons_self ..)
    · rw [upd_ne e] at h
      rcases ih h with q | q
      · exact .inl q
      · exact .inr (List.mem_cons_of_mem _ q)
theorem lay_old {l : List (Addr × HO)} {H : Hp} (hl : ∀ p ∈ l, H p.1 = none) {a : Addr} {o : HO} (h : H a = some o) : lay l H a = some o := by
  rw [lay_not, h]
  intro hm
  obtain ⟨p, hp, e⟩ := List.mem_map.mp hm
  subst e
  rw [hl p hp] at h
  cases h
theorem objok_there {P : Program} {w : World} {H : Hp} {h : Heap} {a : Addr} {o : HO} (x : ObjOk P w H h a o) : ∃ u, h.get? a = some u := by
  cases o with
  | lst xs => obtain ⟨_, _, _, _, e⟩ := x; exact ⟨_, e⟩
  | tup xs => obtain ⟨_, _, _, o, e, _⟩ := x; exact ⟨o, e⟩
  | dK kvs => obtain ⟨_, _, _, _, o, _, _, e, _⟩ := x; exact ⟨o, e⟩
  | dT kvs => obtain ⟨_, _, _, _, o, _, _, e, _⟩ := x; exact ⟨o, e⟩
  | set S n => obtain ⟨o, _, _, _, e, _⟩ := x; exact ⟨o, e⟩
  | ins C dx fs => obtain ⟨_, _, _, e, _⟩ := x; exact ⟨_, e⟩
  | own y => obtain ⟨o, e⟩ := x; exact ⟨o, e⟩
  | xd fs => obtain ⟨_, ⟨_, _, _, e, _⟩, _⟩ := x; exact ⟨_, e⟩
  | rng lo hi => obtain ⟨_, _, _, e⟩ := x; exact ⟨_, e⟩
  | frz ob u => obtain ⟨e, _⟩ := x; exact ⟨ob, e⟩
  | tbl ps => exact ⟨_, (show h.get? a = some _ from x)⟩
  | met f y => exact ⟨_, (show h.get? a = some _ from x)⟩
  | ext φ => obtain ⟨_, ⟨o, e⟩, _⟩ := x; exact ⟨o, e⟩
theorem inv_none {X : Cx} {pins : List (Addr × Obj)} {σ : L2.St} {H : Hp} {s : Shared} (I : Inv X pins σ H s) {a : Addr} (h : s.heap.get? a = none) : H a = none := by
  cases e : H a with
  | none => rfl
  | some o =>
    obtain ⟨u, q⟩ := objok_there (I.hok a o e)
    rw [h] at q
    cases q
theorem Inv.more {X : Cx} {pins : List (Addr × Obj)} {σ : L2.St} {H : Hp} {s : Shared} (I : Inv X pins σ H s) {h' : Heap} {tk : Nat} {l : List (Addr × HO)} (k : ∀ b o, s.heap.get? b = some o → h'.get? b = some o) (hl : ∀ p ∈ l, s.heap.get? p.1 = none)
    (new : ∀ p ∈ l, ObjOk X.prog X.w (lay l H) h' p.1 p.2) : Inv X pins σ (lay l H) { s with heap := h', toks := tk } := by
  have hn : ∀ p ∈ l, H p.1 = none := fun p hp => inv_none I (hl p hp)
  have low : ∀ b o, s.heap.get? b = some o → lay l H b = H b := fun b o e => lay_not fun hm => by
    obtain ⟨p, hp, q⟩ := List.mem_map.mp hm
    have z := hl p hp
    rw [q, e] at z
    cases z
  refine I.un ⟨fun b o e _ _ _ => k b o e, fun b o e _ _ _ => ⟨o.slots, k b o e⟩, fun b o e n _ => by rw [low b o e]; exact n, fun b o e _ => ⟨o, k b o e⟩, fun b xs e => lay_old hn e, fun b o u e => lay_old hn e, fun b ps e => ⟨#[], by rw [lay_old hn e]; simp⟩⟩ fun b o e => ?_
  rcases lay_some e with q | q
  · exact (I.hok b o q).stay (fun c v _ e => k c v e) (fun c e => lay_old hn e) fun c xs e => lay_old hn e
  · exact new (b, o) q
/-- the pairs of xs and ys, in the tuples at Ts -/
def prs (Ts : List Addr) (xs ys : List V) : List (Addr × HO) := Ts.zip (List.zipWith (fun x y => HO.tup [x, y]) xs ys)
def tLstZip (K : PySem.W.Frag) (ta : TA) : TE := fun σ H Q => ta σ H fun vs H1 => ∃ t1 t2 a b xs ys, vs = [.ref a, .ref b] ∧ SqB t1 K H1 a xs ∧ SqB t2 K H1 b ys ∧
  ∀ (Ts : List Addr) (l : Addr), Ts.length = min xs.length ys.length → Ts.Nodup → (∀ T ∈ Ts, H1 T = none) → l ∉ Ts → H1 l = none → Q (.ref l) (lay ((l, .lst (Ts.map V.ref)) :: prs Ts xs ys) H1)
theorem prs_keys {Ts : List Addr} {xs ys : List V} (h : Ts.length = min xs.length ys.length) : (prs Ts xs ys).map (·.1) = Ts := by
  unfold prs
  rw [List.map_fst_zip]
  rw [List.length_zipWith, h]
  exact Nat.le_refl _
theorem prs_get {Ts : List Addr} {xs ys : List V} {p : Addr × HO} (h : p ∈ prs Ts xs ys) : ∃ (j : Nat) (x y : V), Ts[j]? = some p.1 ∧ xs[j]? = some x ∧ ys[j]? = some y ∧ p.2 = .tup [x, y] := by
  obtain ⟨j, hj⟩ := List.mem_iff_getElem?.mp h
  unfold prs at hj
  rw [List.getElem?_zip_eq_some] at hj
  obtain ⟨h1, h2⟩ := hj
  rw [List.getElem?_zipWith] at h2
  split at h2
  · rename_i x y e1 e2
    exact ⟨j, x, y, h1, e1, e2, (Option.some.inj h2).symm⟩
  · cases h2
theorem refs_of : ∀ {us : List Value}, (∀ u ∈ us, ∃ T : Addr, u = .ref T) → ∃ Ts : List Addr, us = Ts.map Value.ref
  | [], _ => ⟨[], rfl⟩
  | u :: us, h => by
    obtain ⟨T, e⟩ := h u (List.mem_cons_self ..)
    obtain ⟨Ts, e2⟩ := refs_of (us := us) fun v hv => h v (List.mem_cons_of_mem _ hv)
    exact ⟨T :: Ts, by rw [e, e2]; rfl⟩
theorem vals_refs : ∀ Ts : List Addr, Vals (Ts.map V.ref) (Ts.map Value.ref)
  | [] => .nil
  | _ :: r => .cons rfl (vals_refs r)
theorem pe_lstZip {X : Cx} {e e2 : Expr} {ta : TA} {p p2 pos q : Pos} (hc : X.calm = true) (hgl : Gl X "list") (hml : X.mg "list" = none) (hg : Gl X "zip") (hm : X.mg "zip" = none) (ha : PA X [e, e2] ta)
    (hs : starEach [e, e2] X.env = (false, eval e X.env) :: starEach [e2] X.env := by rfl) (hpl : (backTo q (starEach [e2] X.env)).any (·.1) = false := by rfl)
    (na : starEach [Expr.Call (.Name "zip" p2) [e, e2] [] q] X.env = (false, eval (Expr.Call (.Name "zip" p2) [e, e2] [] q) X.env) :: starEach [] X.env := by rfl) :
    PE X (.Call (.Name "list" p) [.Call (.Name "zip" p2) [e, e2] [] q] [] pos) (tLstZip X.K ta) := by
  refine ⟨fun pins s σ H Q I h => ?_⟩
  refine Call_ (ld_blt I hgl hml boot_list (PyProof.Rows.callWith_type1 (PyProof.Rows.args_cons ?_ na) na))
  refine Call_ (ld_blt I hg hm PyProof.Rows.boot_zip (PyProof.Rows.callWith_type1 (thn (ha.run q pins s σ H _ I h) fun us s1 ⟨vs, H1, I1, r1, q1⟩ => ?_) hs hpl))
  obtain ⟨t1, t2, a, b, xs, ys, ex, hqx, hqy, q1⟩ := q1
  subst ex
  obtain ⟨u1, u2, rfl, ra, rb⟩ := vals2 r1
  cases ra
  cases rb
  obtain ⟨its, rv, p1, zx, la⟩ := sq_at I1 hqx
  obtain ⟨its2, rv2, p2', zy, lb⟩ := sq_at I1 hqy
  refine zip_begins2 (sq_begins t1 a its.toArray) (sq_begins t2 b its2.toArray) p1 p2' fun h' hz hTI hTO h1 h2 hsz hk => PyProof.Rows.args_nil ?_
  have k1 := IsSq.at p1 fun o e => hk a o e
  have k2 := IsSq.at p2' fun o e => hk b o e
  have lx := rv.length
  have ly := rv2.length
  have D1 := fun A hh => sq_draws (prog := X.prog) (w := X.w) (A := A) hh t1 s1.heap.objs.size a (Nat.ne_of_lt la) its.toArray
  have D2 := fun A hh => sq_draws (prog := X.prog) (w := X.w) (A := A) hh t2 (s1.heap.objs.size + 1) b (Nat.ne_of_lt (Nat.lt_succ_of_lt lb)) its2.toArray
  have hmin : min its.toArray.size its2.toArray.size = min xs.length ys.length := by
    rw [List.size_toArray, List.size_toArray, lx, ly]
  refine call_list_zip (s := { s1 with heap := h' }) (Old := fun b => ∃ o, s1.heap.get? b = some o) (zip_sep2 (lt1 la) (lt1 lb)) (D1 _ (I1.ok.hd hc)) (D2 _ (I1.ok.hd hc))
    (by rw [hmin]; exact Nat.le_trans (Nat.min_le_left _ _) zx) ⟨⟨.none, .bool false, hz, ⟨false, rfl, .inl rfl⟩⟩, hTI, ⟨_, _, hTO⟩, ⟨.new h1, k1⟩, ⟨.new h2, k2⟩⟩ (fun c hcm => ?_) (fun b ⟨o, e⟩ => ⟨o, hk b o e⟩) fun h'' tk acc c fr hL pr => ?_
  · show c < h'.objs.size
    rw [hsz]
    have hN : s1.heap.objs.size < s1.heap.objs.size + 5 := by omega
    simp only [List.mem_cons, List.mem_append, List.not_mem_nil, or_false] at hcm
    rcases hcm with q | q | q | (q | q) | (q | q)
    · rw [q]; exact Nat.lt_succ_self _
    · rw [q]; exact Nat.add_lt_add_left (by decide : 2 < 5) _
    · rw [q]; exact Nat.add_lt_add_left (by decide : 3 < 5) _
    · rw [q]; exact hN
    · rw [q]; exact Nat.lt_trans la hN
    · rw [q]; exact Nat.add_lt_add_left (by decide : 1 < 5) _
    · rw [q]; exact Nat.lt_trans lb hN
  · replace fr : ∀ b o, b ∉ [s1.heap.objs.size + 4, s1.heap.objs.size + 3, s1.heap.objs.size, s1.heap.objs.size + 1] → h'.get? b = some o → h''.get? b = some o := fr
    replace hL : h''.get? h'.objs.size = some { cls := .type "list", dict := none, data := .seq acc c, slots := #[] } := hL
    rw [hmin] at pr
    obtain ⟨Ts, eT⟩ := refs_of (us := acc.toList) fun u hu => by
      obtain ⟨j, hj⟩ := List.mem_iff_getElem?.mp hu
      obtain ⟨T, y1, y2, e, _⟩ := pr.2.1 j u (by rw [← Array.getElem?_toList]; exact hj)
      exact ⟨T, e⟩
    have lT : Ts.length = min xs.length ys.length := by
      rw [← pr.1, ← Array.length_toList, eT, List.length_map]
    have atT : ∀ {j : Nat} {T : Addr}, Ts[j]? = some T → acc[j]? = some (.ref T) := fun {j T} e => by
      rw [← Array.getElem?_toList, eT, List.getElem?_map, e]
      rfl
    have tell : ∀ {j : Nat} {T : Addr}, Ts[j]? = some T → ∃ y1 y2, IsTupOf2 h'' T y1 y2 ∧ its[j]? = some y1 ∧ its2[j]? = some y2 ∧ T ≠ h'.objs.size ∧ s1.heap.get? T = none := fun {j T} e => by
      obtain ⟨T', y1, y2, e1, e2, e3, e4, e5, e6⟩ := pr.2.1 j _ (atT e)
      cases e1
      refine ⟨y1, y2, e2, by simpa using e3, by simpa using e4, fun q => e5 (by rw [← q]; simp), ?_⟩
      cases q : s1.heap.get? T with
      | none => rfl
      | some o => exact absurd ⟨o, q⟩ e6
    have nodup : Ts.Nodup := by
      rw [List.nodup_iff_pairwise_ne, List.pairwise_iff_getElem]
      intro i j hi hj hij e
      have := pr.2.2 i j (.ref Ts[i]) (atT (List.getElem?_eq_getElem hi)) (by rw [e]; exact atT (List.getElem?_eq_getElem hj))
      omega
    have memT : ∀ {T : Addr}, T ∈ Ts → ∃ j, Ts[j]? = some T := fun hT => List.mem_iff_getElem?.mp hT
    have lS : s1.heap.get? h'.objs.size = none := Heap.get?_none_of_le (by rw [hsz]; omega)
    have kk : ∀ b o, s1.heap.get? b = some o → h''.get? b = some o := fun b o e => by
      have hb : b < s1.heap.objs.size := Heap.lt_size e
      refine fr b o (fun hm => ?_) (hk b o e)
      simp only [List.mem_cons, List.not_mem_nil, or_false] at hm
      rcases hm with q | q | q | q
      · exact absurd (q ▸ hb) (Nat.not_lt_of_le (Nat.le_add_right _ _))
      · exact absurd (q ▸ hb) (Nat.not_lt_of_le (Nat.le_add_right _ _))
      · exact absurd (q ▸ hb) (Nat.lt_irrefl _)
      · exact absurd (q ▸ hb) (Nat.not_lt_of_le (Nat.le_add_right _ _))
    have I2 := Inv.more (l := (h'.objs.size, .lst (Ts.map V.ref)) :: prs Ts xs ys) (tk := tk) I1 kk (fun p hp => ?_) fun p hp => ?_
    · refine ⟨.ref h'.objs.size, _, I2, rfl, q1 Ts h'.objs.size lT nodup (fun T hT => ?_) (fun hm => ?_) (inv_none I1 lS)⟩
      · obtain ⟨j, hj⟩ := memT hT
        obtain ⟨y1, y2, _, _, _, _, z⟩ := tell hj
        exact inv_none I1 z
      · obtain ⟨j, hj⟩ := memT hm
        obtain ⟨y1, y2, _, _, _, z, _⟩ := tell hj
        exact z rfl
    · rcases List.mem_cons.mp hp with q | q
      · subst q
        exact lS
      · obtain ⟨j, x, y, hj, _⟩ := prs_get q
        obtain ⟨y1, y2, _, _, _, _, z⟩ := tell hj
        exact z
    · rcases List.mem_cons.mp hp with q | q
      · subst q
        refine ⟨?_, Ts.map Value.ref, c, vals_refs Ts, ?_⟩
        · rw [List.length_map, lT]
          exact Nat.le_trans (Nat.min_le_left _ _) zx
        · rw [← eT, Array.toArray_toList]
          exact hL
      · obtain ⟨j, x, y, hj, hx, hy, e⟩ := prs_get q
        obtain ⟨y1, y2, kT, e1, e2, _⟩ := tell hj
        obtain ⟨v1, f1, r1⟩ := rv.get hx
        obtain ⟨v2, f2, r2⟩ := rv2.get hy
        rw [f1] at e1
        rw [f2] at e2
        cases e1
        cases e2
        rw [e]
        exact ⟨by show 2 ≤ sizeLine; decide, [_, _], .cons r1 (.cons r2 .nil), ⟨_, kT, rfl, _, rfl⟩⟩
end FL

set_option Elab.async false
set_option linter.all false
set_option maxRecDepth 100000
set_option autoImplicit false
namespace FL
open PySem PySem.Spec PyProof.Rows L2 FZ

/-! ## sequences with what must stand -/
def seqK (s : Sto) : D → Option (Bool × List D × List (Nat × O))
  | .tup ds => some (true, ds, [])
  | .ft ds => some (true, ds, [])
  | .ref n => match s[n]? with
    | some (.lst ds) => some (false, ds, [(n, .lst ds)])
    | some (.rol ds) => some (false, ds, [(n, .rol ds)])
    | some (.lk (.lst ds)) => some (false, ds, [(n, .lk (.lst ds))])
    | _ => none
  | _ => none
/-- a sequence, at any later time at which it stands -/
theorem seqK_ok {K : PySem.W.Frag} {m : List Addr} {H : Hp} {st : Sto} {x : D} {v : V} {t : Bool} {ds : List D} {cs : List (Nat × O)} (h : seqK st x = some (t, ds, cs)) (r : VR m H x v) :
    ∃ p, v = .ref p ∧ ∀ (m' : List Addr) (H' : Hp) (st' : Sto), Ext m H m' H' → SimO m' H' st' → (∀ c ∈ cs, st'[c.1]? = some c.2) → ∃ vs, SqB t K H' p vs ∧ VRs m' H' ds vs := by
  unfold seqK at h
  split at h
  · cases h
    obtain ⟨p, vs, e, hp, rv⟩ := r
    exact ⟨p, e, fun m' H' st' x _ _ => ⟨vs, SqT.of (K := K) (x.tup _ _ hp), rv.ext x⟩⟩
  · cases h
    obtain ⟨p, o, vs, e, hp, _, rv⟩ := r
    exact ⟨p, e, fun m' H' st' x _ _ => ⟨vs, .inl (.inr ⟨o, x.frz _ _ _ hp⟩), rv.ext x⟩⟩
  · obtain ⟨p, ev, hp⟩ := r
    split at h
    · rename_i n ds' e
      cases h
      refine ⟨p, ev, fun m' H' st' x S c => ?_⟩
      obtain ⟨vs, hv, rv⟩ := S.at (x.at hp) (c _ (List.mem_cons_self ..))
      exact ⟨vs, SqL.of hv, rv⟩
    · rename_i n ds' e
      cases h
      refine ⟨p, ev, fun m' H' st' x S c => ?_⟩
      obtain ⟨vs, hv, rv⟩ := S.at (x.at hp) (c _ (List.mem_cons_self ..))
      exact ⟨vs, .inl hv, rv⟩
    · rename_i n ds' e
      cases h
      refine ⟨p, ev, fun m' H' st' x S c => ?_⟩
      obtain ⟨o, vs, hv, rv⟩ := S.at (x.at hp) (c _ (List.mem_cons_self ..))
      exact ⟨vs, .inl (.inr ⟨o, hv⟩), rv⟩
    · cases h
  · cases h
theorem seqK_here {st : Sto} {x : D} {t : Bool} {ds : List D} {cs : List (Nat × O)} (h : seqK st x = some (t, ds, cs)) : ∀ c ∈ cs, st[c.1]? = some c.2 := by
  unfold seqK at h
  intro c hc
  split at h
  · cases h
    simp at hc
  · cases h
    simp at hc
  · split at h
    · cases h
      simp at hc
      rw [hc]
      assumption
    · cases h
      simp at hc
      rw [hc]
      assumption
    · cases h
      simp at hc
      rw [hc]
      assumption
    · cases h
  · cases h
/-! ### zip -/
def zipT (xs ys : List D) : List D := List.zipWith (fun a b => .tup [a, b]) xs ys
def zipF (q : List D) (s : Sto) : Option (Bool × Bool × List D × List D × List (Nat × O)) := match q with
  | [x, y] => (seqK s x).bind fun a => (seqK s y).bind fun b => some (a.1, b.1, a.2.1, b.2.1, a.2.2 ++ b.2.2)
  | _ => none
def fZip (g : FA) : FI := fun L s => (g L s).bind fun q => (zipF q.1 q.2).map fun z => (⟨zipT z.2.2.1 z.2.2.2.1, z.2.2.2.2⟩, q.2)
theorem zip_WR {K : PySem.W.Frag} {m : List Addr} {H : Hp} {st : Sto} {a b : Addr} {t1 t2 : Bool} {xs ys : List D} {cs cs' : List (Nat × O)}
    (h1 : ∀ m' H' st', Ext m H m' H' → SimO m' H' st' → (∀ c ∈ cs, st'[c.1]? = some c.2) → ∃ vs, SqB t1 K H' a vs ∧ VRs m' H' xs vs)
    (h2 : ∀ m' H' st', Ext m H m' H' → SimO m' H' st' → (∀ c ∈ cs', st'[c.1]? = some c.2) → ∃ vs, SqB t2 K H' b vs ∧ VRs m' H' ys vs) : WR (ItzB K t1 t2 a b) ⟨zipT xs ys, cs ++ cs'⟩ m H := by
  have both : ∀ {m' : List Addr} {H' : Hp} {st' : Sto}, Ext m H m' H' → SimO m' H' st' → stands (cs ++ cs') st' = true → (∃ vs, SqB t1 K H' a vs ∧ VRs m' H' xs vs) ∧ ∃ vs, SqB t2 K H' b vs ∧ VRs m' H' ys vs :=
    fun x S c => ⟨h1 _ _ _ x S fun z hz => stands_at c (List.mem_append_left _ hz), h2 _ _ _ x S fun z hz => stands_at c (List.mem_append_right _ hz)⟩
  refine ⟨fun i m' H' st' x S c hle => ?_, fun i d m' H' st' x S c hd => ?_⟩
  · obtain ⟨⟨vs, q1, r1⟩, ws, q2, r2⟩ := both x S c
    have l1 := r1.len
    have l2 := r2.len
    have hz : (zipT xs ys).length = min xs.length ys.length := by simp [zipT]
    replace hle : i = (zipT xs ys).length := hle
    refine ⟨vs, ws, q1, q2, ?_, ?_, ?_⟩ <;> omega
  · obtain ⟨⟨vs, q1, r1⟩, ws, q2, r2⟩ := both x S c
    replace hd : (zipT xs ys)[i]? = some d := hd
    unfold zipT at hd
    rw [List.getElem?_zipWith] at hd
    split at hd
    · rename_i d1 d2 e1 e2
      cases hd
      obtain ⟨v1, f1, g1⟩ := r1.at e1
      obtain ⟨v2, f2, g2⟩ := r2.at e2
      refine ⟨⟨vs, ws, v1, v2, q1, q2, f1, f2⟩, fun v H2 y => ?_⟩
      obtain ⟨T, x1, x2, rfl, hT, rfl, a1, a2⟩ := y
      have b1 := a1 vs q1
      have b2 := a2 ws q2
      rw [f1] at b1
      rw [f2] at b2
      cases b1
      cases b2
      exact ⟨ext_tup hT, S.laidT hT, T, [v1, v2], rfl, upd_same, v1, [v2], rfl, g1.ext (ext_tup hT), v2, [], rfl, g2.ext (ext_tup hT), rfl⟩
    · cases hd
theorem zipF_ok {K : PySem.W.Frag} {m : List Addr} {H : Hp} {st : Sto} {q : List D} {vs : List V} {z : Bool × Bool × List D × List D × List (Nat × O)} (S : SimO m H st) (h : zipF q st = some z) (r : VRs m H q vs) :
    ∃ a b, vs = [.ref a, .ref b] ∧ (∃ ws, SqB z.1 K H a ws ∧ VRs m H z.2.2.1 ws) ∧ (∃ ws, SqB z.2.1 K H b ws ∧ VRs m H z.2.2.2.1 ws) ∧ WR (ItzB K z.1 z.2.1 a b) ⟨zipT z.2.2.1 z.2.2.2.1, z.2.2.2.2⟩ m H := by
  unfold zipF at h
  split at h
  · obtain ⟨⟨t1, xs, cs⟩, h1, h⟩ := Option.bind_eq_some_iff.mp h
    obtain ⟨⟨t2, ys, cs'⟩, h2, h⟩ := Option.bind_eq_some_iff.mp h
    cases h
    obtain ⟨v, w, e, rv, rw'⟩ := r.two
    obtain ⟨a, ea, ka⟩ := seqK_ok (K := K) h1 rv
    obtain ⟨b, eb, kb⟩ := seqK_ok (K := K) h2 rw'
    exact ⟨a, b, by rw [e, ea, eb], ka m H st (Ext.refl _ _) S (seqK_here h1), kb m H st (Ext.refl _ _) S (seqK_here h2), zip_WR (st := st) ka kb⟩
  · cases h
section
variable {X : Cx} {tg e e2 : Expr} {p pos : Pos}
theorem si_zip {ga : FA} (hg : Gl X "zip") (hm : X.mg "zip" = none) (ha : SA X [e, e2] ga) (hs : starEach [e, e2] X.env = (false, eval e X.env) :: starEach [e2] X.env := by rfl)
    (hpl : (backTo pos (starEach [e2] X.env)).any (·.1) = false := by rfl) : SI X tg (.Call (.Name "zip" p) [e, e2] [] pos) (fZip ga) := by
  obtain ⟨t, pa, ra⟩ := ha
  refine ⟨_, pi_zipB hg hm pa hs hpl, fun L st wk st' σ H m R h S l k => ?_⟩
  obtain ⟨⟨q, s1⟩, h1, h⟩ := Option.bind_eq_some_iff.mp h
  obtain ⟨z, h2, h⟩ := Option.map_eq_some_iff.mp h
  cases h
  refine ra L st q s1 σ H m _ h1 S l fun vs m1 H1 x1 S1 r1 => ?_
  obtain ⟨a, b, ev, ⟨ws1, q1, _⟩, ⟨ws2, q2, _⟩, W⟩ := zipF_ok (K := X.K) S1 h2 r1
  exact ⟨_, _, a, b, ws1, ws2, ev, q1, q2, k _ m1 H1 x1 S1 W⟩
def fLZip (g : FA) : FE := fun L s => (g L s).bind fun q => (zipF q.1 q.2).map fun z => (.ref q.2.length, q.2 ++ [.lst (zipT z.2.2.1 z.2.2.2.1)])
theorem VRs.of_get {m : List Addr} {H : Hp} : ∀ {ds : List D} {vs : List V}, ds.length = vs.length → (∀ (i : Nat) (d : D) (v : V), ds[i]? = some d → vs[i]? = some v → VR m H d v) → VRs m H ds vs
  | [], [], _, _ => rfl
  | d :: ds, v :: vs, hl, h => ⟨v, vs, rfl, h 0 d v rfl rfl, VRs.of_get (by simpa using hl) fun i d' v' e1 e2 => h (i + 1) d' v' (by simpa using e1) (by simpa using e2)⟩
  | [], _ :: _, hl, _ => by simp at hl
  | _ :: _, [], hl, _ => by simp at hl
theorem se_lstZip {ga : FA} {p2 q : Pos} (hc : X.calm = true) (hgl : Gl X "list") (hml : X.mg "list" = none) (hg : Gl X "zip") (hm : X.mg "zip" = none) (ha : SA X [e, e2] ga)
    (hs : starEach [e, e2] X.env = (false, eval e X.env) :: starEach [e2] X.env := by rfl) (hpl : (backTo q (starEach [e2] X.env)).any (·.1) = false := by rfl)
    (na : starEach [Expr.Call (.Name "zip" p2) [e, e2] [] q] X.env = (false, eval (Expr.Call (.Name "zip" p2) [e, e2] [] q) X.env) :: starEach [] X.env := by rfl) :
    SE X (.Call (.Name "list" p) [.Call (.Name "zip" p2) [e, e2] [] q] [] pos) (fLZip ga) := by
  obtain ⟨t, pa, ra⟩ := ha
  refine ⟨_, pe_lstZip hc hgl hml hg hm pa hs hpl na, fun L st d st' σ H m Q h S l k => ?_⟩
  obtain ⟨⟨q, s1⟩, h1, h⟩ := Option.bind_eq_some_iff.mp h
  obtain ⟨z, h2, h⟩ := Option.map_eq_some_iff.mp h
  cases h
  refine ra L st q s1 σ H m _ h1 S l fun vs m1 H1 x1 S1 r1 => ?_
  obtain ⟨a, b, ev, ⟨ws1, q1, r1'⟩, ⟨ws2, q2, r2'⟩, _⟩ := zipF_ok (K := X.K) S1 h2 r1
  refine ⟨_, _, a, b, ws1, ws2, ev, q1, q2, fun Ts A lT nd fT hA fA => ?_⟩
  have l1 := r1'.len
  have l2 := r2'.len
  have hkeys : (((A, HO.lst (Ts.map V.ref)) :: prs Ts ws1 ws2).map (·.1)).Nodup := by
    rw [List.map_cons, prs_keys lT, List.nodup_cons]
    exact ⟨hA, nd⟩
  have hnone : ∀ p ∈ (A, HO.lst (Ts.map V.ref)) :: prs Ts ws1 ws2, H1 p.1 = none := fun p hp => by
    rcases List.mem_cons.mp hp with q | q
    · rw [q]; exact fA
    · obtain ⟨j, x, y, hj, _⟩ := prs_get q
      exact fT _ (List.mem_of_getElem? hj)
  have old : ∀ {c o}, H1 c = some o → lay ((A, HO.lst (Ts.map V.ref)) :: prs Ts ws1 ws2) H1 c = some o := fun e => lay_old hnone e
  have x2 : Ext m1 H1 (m1 ++ [A]) (lay ((A, HO.lst (Ts.map V.ref)) :: prs Ts ws1 ws2) H1) := ⟨⟨[A], rfl⟩, fun _ _ e => old e, fun _ _ _ e => old e⟩
  have hLst : lay ((A, HO.lst (Ts.map V.ref)) :: prs Ts ws1 ws2) H1 A = some (.lst (Ts.map V.ref)) := lay_in hkeys (List.mem_cons_self ..)
  have hf : A ∉ m1 := S1.fresh fA
  have items : VRs (m1 ++ [A]) (lay ((A, HO.lst (Ts.map V.ref)) :: prs Ts ws1 ws2) H1) (zipT z.2.2.1 z.2.2.2.1) (Ts.map V.ref) := by
    refine VRs.of_get (by simp [zipT, lT, l1, l2]) fun i d v e1 e2 => ?_
    rw [List.getElem?_map] at e2
    obtain ⟨T, hT, e2⟩ := Option.map_eq_some_iff.mp e2
    subst e2
    unfold zipT at e1
    rw [List.getElem?_zipWith] at e1
    split at e1
    · rename_i d1 d2 f1 f2
      cases e1
      obtain ⟨v1, g1, w1⟩ := r1'.at f1
      obtain ⟨v2, g2, w2⟩ := r2'.at f2
      have hmem : (T, HO.tup [v1, v2]) ∈ prs Ts ws1 ws2 := by
        refine List.mem_of_getElem? (i := i) ?_
        unfold prs
        rw [List.getElem?_zip_eq_some]
        refine ⟨hT, ?_⟩
        rw [List.getElem?_zipWith, g1, g2]
      exact ⟨T, [v1, v2], rfl, lay_in hkeys (List.mem_cons_of_mem _ hmem), v1, [v2], rfl, w1.ext x2, v2, [], rfl, w2.ext x2, rfl⟩
    · cases e1
  refine k _ (m1 ++ [A]) _ (x1.trans x2) ?_ ⟨A, rfl, by rw [← S1.len, List.getElem?_concat_length]⟩
  refine ⟨by simp [S1.len], ?_, fun i p o e1 e2 => ?_⟩
  · rw [List.nodup_append]
    refine ⟨S1.nd, by simp, fun a' ha' b' hb' => ?_⟩
    simp only [List.mem_singleton] at hb'
    subst hb'
    intro e
    subst e
    exact hf ha'
  · by_cases hi : i < m1.length
    · rw [List.getElem?_append_left hi] at e1
      rw [List.getElem?_append_left (by rw [← S1.len]; exact hi)] at e2
      obtain ⟨ho, hp, _⟩ := S1.there e1
      exact (S1.obj i p o e1 e2).ext x2 (by rw [old hp, hp])
    · have hi' : i = m1.length := by
        have := (List.getElem?_eq_some_iff.mp e1).1
        simp at this
        omega
      subst hi'
      rw [List.getElem?_concat_length] at e1
      rw [S1.len, List.getElem?_concat_length] at e2
      cases e1
      cases e2
      exact ⟨_, hLst, items⟩
end
end FL

set_option Elab.async false
set_option linter.all false
set_option maxRecDepth 100000
set_option autoImplicit false
namespace FZ
open PySem
open PySem.Sem (wp)
set_option maxHeartbeats 1000000 in
theorem meets_enum_one {v : Value} {o : Obj} {Hc : Heap → Prop} (B : Begins v o Hc) :
    Meets (Builtin.«enumerate.__new__» ⟨[.type "enumerate", v], []⟩) (fun _ R s => Hc s.heap ∧
      R (.ok (.ret (.ref (s.heap.push o).objs.size))) { s with heap := (s.heap.push o).push { cls := .type "enumerate", data := .fields #[.none, .bool false, .ref s.heap.objs.size, rawInt 0, .none, .none] } }) :=
  .of_wp fun prog w A R s h => by
    obtain ⟨hp, g, d, tk, os⟩ := s
    obtain ⟨h1, h⟩ := h
    have hsub := sub_enumerate
    have q1 : ∀ {A' : Around} {E : Value → Shared → Prop} {Q : Value → Shared → Prop}, Q (.ref hp.objs.size) ⟨hp.push o, g, d, tk, os⟩ → wpAny (model prog w) A' (pyIter v) Q E ⟨hp, g, d, tk, os⟩ :=
      fun q => B.iter prog w _ _ ⟨hp, g, d, tk, os⟩ _ h1 q
    wp_walk using q1
    refine wpAny_stack_any fun st => wpAny_pure ?_
    split
    · rename_i c _ _ _ _ _
      cases (c == Value.type "enumerate")
      · wp_walk using q1
        exact ⟨_, rfl, h⟩
      · wp_walk using q1
        exact ⟨_, rfl, h⟩
    · wp_walk using q1
      exact ⟨_, rfl, h⟩
section
variable {prog : Program} {w : World} {A : Around} {E : Value → Shared → Prop} {s : Shared}
theorem enum_one {v : Value} {o : Obj} {Hc : Heap → Prop} {Q : Value → Shared → Prop} (B : Begins v o Hc) (h1 : Hc s.heap)
    (h : ∀ h', IsEnum h' (s.heap.objs.size + 1) s.heap.objs.size 0 .none → h'.get? s.heap.objs.size = some o → h'.objs.size = s.heap.objs.size + 2 → (∀ b o, s.heap.get? b = some o → h'.get? b = some o) → Q (.ref (s.heap.objs.size + 1)) { s with heap := h' }) :
    wpAny (model prog w) A (call (.type "enumerate") [v]) Q E s := by
  refine callType_new F.called_enumerate (by decide) (F.typeCall_enumerate_1 _) (F.newCall_enumerate_1 _) (fun obj => F.args_object_init_2 obj _) F.entry_enumerate_new (meets_enum_one B) ⟨h1, ?_⟩
  have hz : (s.heap.push o).objs.size = s.heap.objs.size + 1 := Heap.size_push ..
  show _ ∧ _
  rw [hz]
  have he : IsEnum ((s.heap.push o).push { cls := .type "enumerate", data := .fields #[.none, .bool false, .ref s.heap.objs.size, rawInt 0, .none, .none] }) (s.heap.objs.size + 1) s.heap.objs.size 0 .none := by
    have := Heap.get?_push_size (s.heap.push o) (o := { cls := .type "enumerate", data := .fields #[.none, .bool false, .ref s.heap.objs.size, rawInt 0, .none, .none] }) rfl
    rw [hz] at this
    exact this
  exact ⟨⟨_, he, rfl⟩, h _ he (Heap.get?_push_of_some _ (Heap.get?_push_size _ B.free)) (by rw [Heap.size_push, hz]) fun b o x => Heap.get?_push_of_some _ (Heap.get?_push_of_some _ x)⟩
end
end FZ
namespace FL
open PySem PySem.Spec PyProof.Rows L2 FZ

/-! ## enumerate -/
def ItEB (K : PySem.W.Frag) (t : Bool) (a : Addr) : It :=
  ⟨fun i H => ∃ (xs : List V) (x : V), SqB t K H a xs ∧ xs[i]? = some x,
    fun i H v H' => ∃ T x, v = .ref T ∧ H T = none ∧ H' = upd H T (.tup [.int (i : Nat), x]) ∧ ∀ xs, SqB t K H a xs → xs[i]? = some x,
    fun i H => ∃ xs : List V, SqB t K H a xs ∧ i = xs.length⟩
theorem mem2 {c e i : Addr} (h : c ∈ [e, i]) : c = e ∨ c = i := by simpa using h
theorem turn_enumB {P : Program} {w : World} {K : PySem.W.Frag} {elts : List Expr} {kk : Nat} {tpos : Pos} {t : Bool} {a e it : Addr} (hei : e ≠ it) (hae : a ≠ e) (hai : a ≠ it) :
    Turn P w K (.Tuple elts kk tpos) (ItEB K t a) [e, it] e (fun i h => (∃ old, IsEnum h e it ((i : Nat) : Int) old) ∧ IsIt t h it a i) where
  mem := by simp
  obj := fun i h st c hc => by
    obtain ⟨⟨old, he⟩, h1⟩ := st
    rcases mem2 hc with q | q
    · rw [q]; exact ⟨_, he, fun v q => nomatch q⟩
    · rw [q]; exact h1.obj
  keep := fun i h h' st k => let ⟨⟨old, he⟩, h1⟩ := st; ⟨⟨old, k e (by simp) _ he⟩, h1.at fun o q => k it (by simp) o q⟩
  item := by
    intro X hP hw hK hc i pins s σ H E I hf st hg
    subst hP hw hK
    obtain ⟨⟨old, he⟩, h1⟩ := st
    obtain ⟨xs, x, hq, hx⟩ := hg
    obtain ⟨its, rv, p, _, la⟩ := sq_at I hq
    obtain ⟨u, hu, ru⟩ := rv.get hx
    have W := WalksT.enumerateD (A := X.A) (sq_draws (prog := X.prog) (w := X.w) (A := X.A.in1) (I.ok.hd hc) t it a hai its.toArray) e hei (by simp [hei, Ne.symm hae]) (by simp)
    have hel : e < s.heap.objs.size := Heap.lt_size he
    have hil : it < s.heap.objs.size := by obtain ⟨_, q, _⟩ := h1.obj; exact Heap.lt_size q
    refine W.item i s _ _ (by simpa using (List.getElem?_eq_some_iff.mp hu).1) ⟨⟨old, he⟩, h1, p⟩ fun T vals h' tk hP hnew hT hm hk => ?_
    refine ⟨.ref T, rfl, W.go elts kk tpos i T { s with heap := h', toks := tk } _ _ hm fun h'' st2 hk2 => ?_⟩
    obtain ⟨tt, y, hy, ev⟩ := hP
    have ey : y = u := by
      have hy' : its.toArray[i]? = some y := hy
      simp at hy'
      rw [hu] at hy'
      exact (Option.some.inj hy').symm
    subst ey
    subst ev
    have hk3 : ∀ b o, b ∉ [e, it] → s.heap.get? b = some o → h''.get? b = some o := fun b o hb q => hk2 b o hb (hk b o hb q)
    have hT2 : h''.IsTuple T #[.int i tt, y] := hT.at fun o q => hk2 T o (W.apart i T h' hm) q
    have new : ObjOk X.prog X.w (upd H T (.tup [.int (i : Nat), x])) h'' T (.tup [.int (i : Nat), x]) :=
      ⟨by show 2 ≤ sizeLine; decide, [.int i tt, y], .cons ⟨_, rfl⟩ (.cons ru .nil), hT2⟩
    have I1 : Inv X pins σ (upd H T (.tup [.int (i : Nat), x])) { s with heap := h'', toks := tk } := I.turnedNew (t' := tk) (ch := [e, it]) hk3 hf hnew new
    have st3 : (∃ old, IsEnum h'' e it (((i + 1 : Nat)) : Int) old) ∧ IsIt t h'' it a (i + 1) := ⟨st2.1, st2.2.1⟩
    refine ⟨.ref T, _, I1, rfl, ⟨T, x, rfl, I.hok.fresh hnew, rfl, fun ys hy => by rw [sq_inj I hy hq]; exact hx⟩, st3, fun c hcm => ?_⟩
    have hlt : c < s.heap.objs.size := by
      rcases mem2 hcm with q | q
      · rw [q]; exact hel
      · rw [q]; exact hil
    rw [upd_ne (Nat.ne_of_lt (Nat.lt_of_lt_of_le hlt hnew))]
    exact (hf c hcm).1
  done := by
    intro X hP hw hK hc i pins s σ H E I hf st hg
    subst hP hw hK
    obtain ⟨⟨old, he⟩, h1⟩ := st
    obtain ⟨xs, hq, ei⟩ := hg
    obtain ⟨its, rv, p, _, la⟩ := sq_at I hq
    have W := WalksT.enumerateD (A := X.A) (sq_draws (prog := X.prog) (w := X.w) (A := X.A.in1) (I.ok.hd hc) t it a hai its.toArray) e hei (by simp [hei, Ne.symm hae]) (by simp)
    have en : i = its.toArray.size := by rw [ei, rv.length]; simp
    subst en
    exact W.done s _ _ ⟨⟨old, he⟩, h1, p⟩ fun h' tk hk => ⟨rfl, I.turnedL (t' := tk) (ch := [e, it]) hk hf⟩
  self := fun A i s Q E st h => let ⟨⟨_, he⟩, _⟩ := st; wpAny_pyIter_enum he h
def iEnumB (K : PySem.W.Frag) (ta : TA) : TI := fun σ H R => ta σ H fun vs H1 => ∃ t a xs, vs = [.ref a] ∧ SqB t K H1 a xs ∧ R (ItEB K t a) H1
theorem pi_enumB {X : Cx} {e : Expr} {ta : TA} {p pos tpos : Pos} {elts : List Expr} {kk : Nat} (hg : Gl X "enumerate") (hm : X.mg "enumerate" = none) (ha : PA X [e] ta) (hs : starEach [e] X.env = [(false, eval e X.env)] := by rfl) :
    PI X (.Tuple elts kk tpos) (.Call (.Name "enumerate" p) [e] [] pos) (iEnumB X.K ta) := by
  refine ⟨fun pins s σ H R I h => ?_⟩
  refine Call_ (ld_blt I hg hm boot_enumerate (PyProof.Rows.callWith_type1 (thn (ha.run pos pins s σ H _ I h) fun us s1 ⟨vs, H1, I1, r1, q1⟩ => ?_) hs rfl))
  obtain ⟨t, a, xs, ex, hq, q⟩ := q1
  subst ex
  obtain ⟨u, rfl, ru⟩ := vals1 r1
  cases ru
  obtain ⟨its, rv, p1, _, la⟩ := sq_at I1 hq
  refine enum_one (sq_begins t a its.toArray) p1 fun h' he ho hsz hk => wpAny_pyIter_enum he ?_
  have I2 : Inv X pins σ H1 { s1 with heap := h' } := I1.kept (t' := s1.toks) hk
  refine ⟨s1.heap.objs.size + 1, [s1.heap.objs.size + 1, s1.heap.objs.size], _, _, H1, rfl, I2, turn_enumB (Nat.succ_ne_self _) (Nat.ne_of_lt (Nat.lt_succ_of_lt la)) (Nat.ne_of_lt la), ⟨⟨_, he⟩, .new ho⟩, fun c hcm => ?_, q⟩
  have hle : s1.heap.objs.size ≤ c := by
    rcases mem2 hcm with z | z
    · rw [z]; exact Nat.le_succ _
    · rw [z]; exact Nat.le_refl _
  exact I1.fpOk hle (I1.hok.fresh hle)
def enumT : Nat → List D → List D
  | _, [] => []
  | i, d :: ds => .tup [.int (i : Nat), d] :: enumT (i + 1) ds
theorem enumT_len : ∀ (i : Nat) (ds : List D), (enumT i ds).length = ds.length
  | _, [] => rfl
  | i, d :: ds => by rw [enumT, List.length_cons, List.length_cons, enumT_len]
theorem enumT_get : ∀ (k : Nat) (ds : List D) (i : Nat) (d : D), (enumT k ds)[i]? = some d → ∃ x, ds[i]? = some x ∧ d = .tup [.int ((k + i : Nat) : Int), x]
  | _, [], i, d, h => by simp [enumT] at h
  | k, c :: ds, 0, d, h => by
    simp [enumT] at h
    exact ⟨c, by simp, by rw [← h]; simp⟩
  | k, c :: ds, i + 1, d, h => by
    obtain ⟨x, h1, h2⟩ := enumT_get (k + 1) ds i d (by simpa [enumT] using h)
    exact ⟨x, by simpa using h1, by rw [h2, show k + 1 + i = k + (i + 1) by omega]⟩
def fEnum (g : FA) : FI := fun L s => (g L s).bind fun q => match q.1 with
  | [x] => (seqK q.2 x).map fun z => (⟨enumT 0 z.2.1, z.2.2⟩, q.2)
  | _ => none
section
variable {X : Cx} {tg e : Expr} {p pos : Pos}
theorem si_enum {elts : List Expr} {kk : Nat} {tpos : Pos} {ga : FA} (hg : Gl X "enumerate") (hm : X.mg "enumerate" = none) (ha : SA X [e] ga) (hs : starEach [e] X.env = [(false, eval e X.env)] := by rfl) :
    SI X (.Tuple elts kk tpos) (.Call (.Name "enumerate" p) [e] [] pos) (fEnum ga) := by
  obtain ⟨t, pa, ra⟩ := ha
  refine ⟨_, pi_enumB hg hm pa hs, fun L st wk st' σ H m R h S l k => ?_⟩
  obtain ⟨⟨q, s1⟩, h1, h⟩ := Option.bind_eq_some_iff.mp h
  simp only at h
  split at h
  · rename_i x
    obtain ⟨⟨tt, xs, cs⟩, h2, h⟩ := Option.map_eq_some_iff.mp h
    cases h
    refine ra L st [x] _ σ H m _ h1 S l fun vs m1 H1 x1 S1 r1 => ?_
    obtain ⟨v, ev, rv⟩ := r1.one
    obtain ⟨a, ea, ka⟩ := seqK_ok (K := X.K) h2 rv
    obtain ⟨ws, q1, _⟩ := ka m1 H1 _ (Ext.refl _ _) S1 (seqK_here h2)
    refine ⟨tt, a, ws, by rw [ev, ea], q1, k _ m1 H1 x1 S1 ⟨fun i m' H' s' x S c hi => ?_, fun i d m' H' s' x S c hd => ?_⟩⟩
    · obtain ⟨vs, q2, r2⟩ := ka m' H' s' x S fun z hz => stands_at c hz
      refine ⟨vs, q2, ?_⟩
      rw [hi, ← r2.len]
      exact enumT_len _ _
    · obtain ⟨vs, q2, r2⟩ := ka m' H' s' x S fun z hz => stands_at c hz
      obtain ⟨y, hy, ed⟩ := enumT_get 0 xs i d hd
      obtain ⟨v1, f1, g1⟩ := r2.at hy
      refine ⟨⟨vs, v1, q2, f1⟩, fun v H2 y => ?_⟩
      obtain ⟨T, x1, rfl, hT, rfl, a1⟩ := y
      have b1 := a1 vs q2
      rw [f1] at b1
      cases b1
      subst ed
      rw [Nat.zero_add]
      exact ⟨ext_tup hT, S.laidT hT, T, _, rfl, upd_same, _, _, rfl, rfl, v1, [], rfl, g1.ext (ext_tup hT), rfl⟩
  · cases h

/-! ## lists, tuples, texts, locked dicts -/
def seqI (s : Sto) : D → Option Wk
  | .str z => some ⟨z.cps.toList.map fun c => .str ⟨#[c]⟩, []⟩
  | .tup ds => some ⟨ds, []⟩
  | .ft ds => some ⟨ds, []⟩
  | .ref n => match s[n]? with
    | some (.lst ds) => some ⟨ds, [(n, .lst ds)]⟩
    | some (.rol ds) => some ⟨ds, [(n, .rol ds)]⟩
    | some (.lk (.lst ds)) => some ⟨ds, [(n, .lk (.lst ds))]⟩
    | some (.lk (.dK kvs)) => some ⟨kvs.map fun kv => kD kv.1, []⟩
    | some (.lk (.dT kvs)) => some ⟨kvs.map fun kv => .tup (kv.1.map kD), []⟩
    | _ => none
  | _ => none
def fSeqI (f : FE) : FI := fun L s => (f L s).bind fun q => (seqI q.2 q.1).map fun w => (w, q.2)
theorem PI.or {wi wi' : TI} {it : Expr} (a : PI X tg it wi) (b : PI X tg it wi') : PI X tg it (fun σ H R => wi σ H R ∨ wi' σ H R) :=
  ⟨fun pins s σ H R I h => h.elim (a.run pins s σ H R I) (b.run pins s σ H R I)⟩
theorem KR.getI {κ : Type} {m : List Addr} {H : Hp} : ∀ {kvs : List (κ × D)} {ws : List (κ × V)}, KR m H kvs ws → ∀ {i : Nat} {p : κ × D}, kvs[i]? = some p → ∃ q, ws[i]? = some q ∧ p.1 = q.1 ∧ VR m H p.2 q.2
  | _, _, .nil, i, p, e => by simp at e
  | _, _, .cons (a := a) (b := b) z t, 0, p, e => by
    simp at e
    subst e
    exact ⟨b, by simp, z⟩
  | _, _, .cons z t, i + 1, p, e => by
    obtain ⟨q, h1, h2⟩ := KR.getI t (i := i) (p := p) (by simpa using e)
    exact ⟨q, by simpa using h1, h2⟩
theorem list_WR {K : PySem.W.Frag} {m : List Addr} {H : Hp} {a : Addr} {xs : List D} {cs : List (Nat × O)} (h1 : ∀ (m' : List Addr) (H' : Hp) (st' : Sto), Ext m H m' H' → SimO m' H' st' → (∀ c ∈ cs, st'[c.1]? = some c.2) → ∃ vs, SqL K H' a vs ∧ VRs m' H' xs vs) :
    WR (Itl K a) ⟨xs, cs⟩ m H := by
  refine ⟨fun i m' H' st' x S c hi => ?_, fun i d m' H' st' x S c hd => ?_⟩
  · obtain ⟨vs, q, r⟩ := h1 m' H' st' x S fun z hz => stands_at c hz
    exact ⟨vs, q, by rw [← r.len]; exact Nat.le_of_eq hi.symm⟩
  · obtain ⟨vs, q, r⟩ := h1 m' H' st' x S fun z hz => stands_at c hz
    obtain ⟨v, hv, rv⟩ := r.at hd
    refine ⟨⟨vs, v, q, hv⟩, fun u H2 y => ?_⟩
    obtain ⟨rfl, y⟩ := y
    have e := y vs q
    rw [hv] at e
    cases e
    exact ⟨Ext.refl _ _, S, rv⟩
theorem si_seq {f : FE} (he : SE X e f) : SI X tg e (fSeqI f) := by
  obtain ⟨t, pe, re⟩ := he
  refine ⟨_, PI.or (pi_list pe) (PI.or (pi_tup pe) (PI.or (pi_str pe) (pi_keys pe))), fun L st wk st' σ H m R h S l k => ?_⟩
  obtain ⟨⟨q, s1⟩, h1, h⟩ := Option.bind_eq_some_iff.mp h
  obtain ⟨w, h2, h⟩ := Option.map_eq_some_iff.mp h
  obtain ⟨ew, es⟩ := Prod.mk.inj h
  subst ew
  replace es : s1 = st' := es
  subst es
  replace h2 : seqI s1 q = some w := h2
  have go := fun Q => re L st q _ σ H m Q h1 S l
  cases q with
  | str z =>
    cases h2
    refine .inr (.inr (.inl (go _ fun v m1 H1 x1 S1 r1 => ⟨z, r1, k _ m1 H1 x1 S1 ⟨fun i m' H' s' x S c hi => ?_, fun i d m' H' s' x S c hd => ?_⟩⟩)))
    · have hi' : i = (z.cps.toList.map fun c => D.str ⟨#[c]⟩).length := hi
      simp at hi'
      exact Nat.le_of_eq hi'.symm
    · have hd' : (z.cps.toList.map fun c => D.str ⟨#[c]⟩)[i]? = some d := hd
      rw [List.getElem?_map] at hd'
      obtain ⟨c', hc, hd'⟩ := Option.map_eq_some_iff.mp hd'
      subst hd'
      rw [Array.getElem?_toList] at hc
      refine ⟨(Array.getElem?_eq_some_iff.mp hc).1, fun u H2 y => ?_⟩
      obtain ⟨rfl, c2, hc2, rfl⟩ := y
      rw [hc] at hc2
      cases hc2
      exact ⟨Ext.refl _ _, S, rfl⟩
  | tup ds =>
    cases h2
    refine .inr (.inl (go _ fun v m1 H1 x1 S1 r1 => ?_))
    obtain ⟨p, vs, e, hp, rv⟩ := r1
    refine ⟨p, e, ⟨vs, SqT.of hp⟩, k _ m1 H1 x1 S1 ⟨fun i m' H' s' x S c hi => ⟨vs, SqT.of (x.tup _ _ hp), by rw [← rv.len]; exact Nat.le_of_eq hi.symm⟩, fun i d m' H' s' x S c hd => ?_⟩⟩
    obtain ⟨u, hu, ru⟩ := rv.at hd
    refine ⟨⟨vs, u, SqT.of (x.tup _ _ hp), hu⟩, fun u' H2 y => ?_⟩
    obtain ⟨rfl, y⟩ := y
    have e2 := y vs (SqT.of (x.tup _ _ hp))
    rw [hu] at e2
    cases e2
    exact ⟨Ext.refl _ _, S, ru.ext x⟩
  | ft ds =>
    cases h2
    refine .inr (.inl (go _ fun v m1 H1 x1 S1 r1 => ?_))
    obtain ⟨p, o, vs, e, hp, _, rv⟩ := r1
    refine ⟨p, e, ⟨vs, Or.inl (Or.inr ⟨o, hp⟩)⟩, k _ m1 H1 x1 S1 ⟨fun i m' H' s' x S c hi => ⟨vs, Or.inl (Or.inr ⟨o, x.frz _ _ _ hp⟩), by rw [← rv.len]; exact Nat.le_of_eq hi.symm⟩, fun i d m' H' s' x S c hd => ?_⟩⟩
    obtain ⟨u, hu, ru⟩ := rv.at hd
    refine ⟨⟨vs, u, Or.inl (Or.inr ⟨o, x.frz _ _ _ hp⟩), hu⟩, fun u' H2 y => ?_⟩
    obtain ⟨rfl, y⟩ := y
    have e2 := y vs (Or.inl (Or.inr ⟨o, x.frz _ _ _ hp⟩))
    rw [hu] at e2
    cases e2
    exact ⟨Ext.refl _ _, S, ru.ext x⟩
  | ref n =>
    simp only [seqI] at h2
    have seq : ∀ {ds : List D} {cs : List (Nat × O)}, seqK s1 (.ref n) = some (false, ds, cs) → w = ⟨ds, cs⟩ → iList X.K t σ H R := by
      intro ds cs hk ew
      subst ew
      refine go _ fun v m1 H1 x1 S1 r1 => ?_
      obtain ⟨a, ea, ka⟩ := seqK_ok (K := X.K) hk r1
      obtain ⟨ws, q1, _⟩ := ka m1 H1 _ (Ext.refl _ _) S1 (seqK_here hk)
      exact ⟨a, ea, ⟨ws, q1⟩, k _ m1 H1 x1 S1 (list_WR ka)⟩
    split at h2
    · rename_i ds e
      cases h2
      exact .inl (seq (by simp only [seqK, e]) rfl)
    · rename_i ds e
      cases h2
      exact .inl (seq (by simp only [seqK, e]) rfl)
    · rename_i ds e
      cases h2
      exact .inl (seq (by simp only [seqK, e]) rfl)
    · rename_i kvs e
      cases h2
      refine .inr (.inr (.inr (go _ fun v m1 H1 x1 S1 r1 => ?_)))
      obtain ⟨p, ep, hp⟩ := r1
      obtain ⟨o, ws, hw, kr⟩ := S1.at hp e
      refine ⟨p, o, ep, .inl ⟨ws, hw, k _ m1 H1 x1 S1 ⟨fun i m' H' s' x S c hi => ⟨x.frz _ _ _ hw, ?_⟩, fun i d m' H' s' x S c hd => ?_⟩⟩⟩
      · have hi' : i = (kvs.map fun kv => kD kv.1).length := hi
        rw [List.length_map, kr.len] at hi'
        exact Nat.le_of_eq hi'.symm
      · have hd' : (kvs.map fun kv => kD kv.1)[i]? = some d := hd
        rw [List.getElem?_map] at hd'
        obtain ⟨kv, hkv, hd'⟩ := Option.map_eq_some_iff.mp hd'
        subst hd'
        obtain ⟨q, hq, e1, _⟩ := KR.getI kr hkv
        refine ⟨⟨x.frz _ _ _ hw, (List.getElem?_eq_some_iff.mp hq).1⟩, fun u H2 y => ?_⟩
        obtain ⟨rfl, k2, v2, hkv2, rfl⟩ := y
        rw [hq] at hkv2
        cases hkv2
        refine ⟨Ext.refl _ _, S, ?_⟩
        rw [e1]
        exact kD_VR _
    · rename_i kvs e
      cases h2
      refine .inr (.inr (.inr (go _ fun v m1 H1 x1 S1 r1 => ?_)))
      obtain ⟨p, ep, hp⟩ := r1
      obtain ⟨o, ws, hw, kr⟩ := S1.at hp e
      refine ⟨p, o, ep, .inr ⟨ws, hw, k _ m1 H1 x1 S1 ⟨fun i m' H' s' x S c hi => ⟨x.frz _ _ _ hw, ?_⟩, fun i d m' H' s' x S c hd => ?_⟩⟩⟩
      · have hi' : i = (kvs.map fun kv => D.tup (kv.1.map kD)).length := hi
        rw [List.length_map, kr.len] at hi'
        exact Nat.le_of_eq hi'.symm
      · have hd' : (kvs.map fun kv => D.tup (kv.1.map kD))[i]? = some d := hd
        rw [List.getElem?_map] at hd'
        obtain ⟨kv, hkv, hd'⟩ := Option.map_eq_some_iff.mp hd'
        subst hd'
        obtain ⟨q, hq, e1, _⟩ := KR.getI kr hkv
        refine ⟨⟨x.frz _ _ _ hw, (List.getElem?_eq_some_iff.mp hq).1⟩, fun u H2 y => ?_⟩
        obtain ⟨rfl, k2, v2, a2, hkv2, rfl, ha2⟩ := y
        rw [hq] at hkv2
        cases hkv2
        refine ⟨Ext.refl _ _, S, a2, k2.map kV, rfl, ha2, ?_⟩
        rw [e1]
        exact kDs_VRs _
    · cases h2
  | _ => cases h2
end
end FL

set_option Elab.async false
set_option linter.all false
set_option maxRecDepth 100000
set_option autoImplicit false
namespace FL
open PySem PySem.Spec PyProof.Rows L2 FZ

/-! ## ranges -/
def rgB (i : Int) : Bool := decide (-4611686018427387904 ≤ i) && decide (i < 4611686018427387904)
theorem rgB_ok {i : Int} (h : rgB i = true) : -(2 ^ 62) ≤ i ∧ i < 2 ^ 62 := by
  unfold rgB at h
  simp only [Bool.and_eq_true, decide_eq_true_eq] at h
  have e : (2 : Int) ^ 62 = 4611686018427387904 := by decide +kernel
  rw [e]
  exact h
def fRng1 (g : FA) : FI := fun L s => (g L s).bind fun q => match q.1 with
  | [.int j] => if rgB j = true then some (⟨rgD 0 j, []⟩, q.2) else none
  | _ => none
def fRng2 (g : FA) : FI := fun L s => (g L s).bind fun q => match q.1 with
  | [.int i, .int j] => if (rgB i && rgB j) = true then some (⟨rgD i j, []⟩, q.2) else none
  | _ => none
theorem rng_WR {m : List Addr} {H : Hp} (i j : Int) : WR (Itr i (j - i).toNat) ⟨rgD i j, []⟩ m H := by
  refine ⟨fun n m' H' st' x S c hi => ?_, fun n d m' H' st' x S c hd => ?_⟩
  · have e : n = (rgD i j).length := hi
    rw [rgD_len] at e
    exact Nat.le_of_eq e.symm
  · have hd' : (rgD i j)[n]? = some d := hd
    have hn : n < (j - i).toNat := by
      have := (List.getElem?_eq_some_iff.mp hd').1
      rwa [rgD_len] at this
    unfold rgD at hd'
    rw [List.getElem?_map, List.getElem?_range hn] at hd'
    cases hd'
    refine ⟨hn, fun u H2 y => ?_⟩
    obtain ⟨rfl, rfl⟩ := y
    exact ⟨Ext.refl _ _, S, rfl⟩
/-- tuple(range(..)), list(range(..)) -/
def rgOkB (i j : Int) : Bool := rgB i && rgB j && decide ((j - i).toNat ≤ 2 ^ 24)
theorem rgOkB_ok {i j : Int} (h : rgOkB i j = true) : RgOk i j := by
  unfold rgOkB at h
  simp only [Bool.and_eq_true, decide_eq_true_eq] at h
  obtain ⟨⟨h1, h2⟩, h3⟩ := h
  exact ⟨(rgB_ok h1).1, (rgB_ok h1).2, (rgB_ok h2).1, (rgB_ok h2).2, h3⟩
def fLRg1 (g : FE) : FE := fun L s => (g L s).bind fun q => match q.1 with
  | .int j => if rgOkB 0 j = true then some (.ref q.2.length, q.2 ++ [.lst (rgD 0 j)]) else none
  | _ => none
def fTRg1 (g : FE) : FE := fun L s => (g L s).bind fun q => match q.1 with
  | .int j => if rgOkB 0 j = true then some (.tup (rgD 0 j), q.2) else none
  | _ => none
section
variable {X : Cx} {tg : Expr} {a b : Expr} {p pos : Pos} {ga : FA}
theorem si_range1 (hg : Gl X "range") (hm : X.mg "range" = none) (ha : SA X [a] ga) (hs : starEach [a] X.env = [(false, eval a X.env)] := by rfl) : SI X tg (.Call (.Name "range" p) [a] [] pos) (fRng1 ga) := by
  obtain ⟨t, pa, ra⟩ := ha
  refine ⟨_, pi_range1 hg hm pa hs, fun L st wk st' σ H m R h S l k => ?_⟩
  obtain ⟨⟨q, s1⟩, h1, h⟩ := Option.bind_eq_some_iff.mp h
  simp only at h
  split at h
  · rename_i j
    split at h
    · rename_i hj
      cases h
      refine ra L st [.int j] _ σ H m _ h1 S l fun vs m1 H1 x1 S1 r1 => ?_
      obtain ⟨v, ev, rv⟩ := r1.one
      obtain ⟨b1, b2⟩ := rgB_ok hj
      refine ⟨j, by rw [ev, show v = _ from rv], b1, b2, ?_⟩
      have := k (Itr 0 (j - 0).toNat) m1 H1 x1 S1 (rng_WR 0 j)
      rwa [show j - 0 = j by omega] at this
    · cases h
  · cases h
theorem si_range2 (hg : Gl X "range") (hm : X.mg "range" = none) (ha : SA X [a, b] ga) (hs : starEach [a, b] X.env = [(false, eval a X.env), (false, eval b X.env)] := by rfl) (hs2 : starEach [b] X.env = [(false, eval b X.env)] := by rfl) :
    SI X tg (.Call (.Name "range" p) [a, b] [] pos) (fRng2 ga) := by
  obtain ⟨t, pa, ra⟩ := ha
  refine ⟨_, pi_range2 hg hm pa hs hs2, fun L st wk st' σ H m R h S l k => ?_⟩
  obtain ⟨⟨q, s1⟩, h1, h⟩ := Option.bind_eq_some_iff.mp h
  simp only at h
  split at h
  · rename_i i j
    split at h
    · rename_i hj
      cases h
      refine ra L st [.int i, .int j] _ σ H m _ h1 S l fun vs m1 H1 x1 S1 r1 => ?_
      obtain ⟨v, w, ev, rv, rw'⟩ := r1.two
      simp only [Bool.and_eq_true] at hj
      obtain ⟨b1, b2⟩ := rgB_ok hj.1
      obtain ⟨b3, b4⟩ := rgB_ok hj.2
      exact ⟨i, j, by rw [ev, show v = _ from rv, show w = _ from rw'], ⟨b1, b2, b3, b4⟩, k _ m1 H1 x1 S1 (rng_WR i j)⟩
    · cases h
  · cases h
theorem se_lstRg1 {fa : FE} {p2 q : Pos} (hc : X.calm = true) (hgl : Gl X "list") (hml : X.mg "list" = none) (hg : Gl X "range") (hm : X.mg "range" = none) (ha : SE X a fa) (na : starEach [a] X.env = (false, eval a X.env) :: starEach [] X.env := by rfl)
    (na2 : starEach [Expr.Call (.Name "range" p2) [a] [] q] X.env = (false, eval (Expr.Call (.Name "range" p2) [a] [] q) X.env) :: starEach [] X.env := by rfl) :
    SE X (.Call (.Name "list" p) [.Call (.Name "range" p2) [a] [] q] [] pos) (fLRg1 fa) := by
  obtain ⟨t, pa, ra⟩ := ha
  refine ⟨_, pe_listRg hc hgl hml (prg_1 hg hm pa na) na2, fun L st d st' σ H m Q h S l k => ?_⟩
  obtain ⟨⟨q, s1⟩, h1, h⟩ := Option.bind_eq_some_iff.mp h
  simp only at h
  split at h
  · rename_i j
    split at h
    · rename_i hj
      cases h
      refine ra L st (.int j) s1 σ H m _ h1 S l fun v m1 H1 x1 S1 r1 => ⟨j, r1, rgOkB_ok hj, fun q hq => ?_⟩
      refine k _ (m1 ++ [q]) _ (x1.trans (ext_new hq)) (S1.laid hq ⟨_, upd_same, rgD_VRs 0 j⟩) ⟨q, rfl, ?_⟩
      rw [← S1.len, List.getElem?_concat_length]
    · cases h
  · cases h
theorem se_tupRg1 {fa : FE} {p2 q : Pos} (hc : X.calm = true) (hgl : Gl X "tuple") (hml : X.mg "tuple" = none) (hg : Gl X "range") (hm : X.mg "range" = none) (ha : SE X a fa) (na : starEach [a] X.env = (false, eval a X.env) :: starEach [] X.env := by rfl)
    (na2 : starEach [Expr.Call (.Name "range" p2) [a] [] q] X.env = (false, eval (Expr.Call (.Name "range" p2) [a] [] q) X.env) :: starEach [] X.env := by rfl) :
    SE X (.Call (.Name "tuple" p) [.Call (.Name "range" p2) [a] [] q] [] pos) (fTRg1 fa) := by
  obtain ⟨t, pa, ra⟩ := ha
  refine ⟨_, pe_tupRg hc hgl hml (prg_1 hg hm pa na) na2, fun L st d st' σ H m Q h S l k => ?_⟩
  obtain ⟨⟨q, s1⟩, h1, h⟩ := Option.bind_eq_some_iff.mp h
  simp only at h
  split at h
  · rename_i j
    split at h
    · rename_i hj
      cases h
      refine ra L st (.int j) _ σ H m _ h1 S l fun v m1 H1 x1 S1 r1 => ⟨j, r1, rgOkB_ok hj, fun q hq => ?_⟩
      exact k _ m1 _ (x1.trans (ext_tup hq)) (S1.laidT hq) ⟨q, _, rfl, upd_same, rgD_VRs 0 j⟩
    · cases h
  · cases h

/-! ## d.items() of a locked dict -/
def itemsT (kvs : List (Key × D)) : List D := kvs.map fun kv => .tup [kD kv.1, kv.2]
def fItems (f : FE) : FI := fun L s => (f L s).bind fun q => match q.1 with
  | .ref n => match q.2[n]? with
    | some (.lk (.dK kvs)) => some (⟨itemsT kvs, []⟩, q.2)
    | _ => none
  | _ => none
theorem si_items {elts : List Expr} {kk : Nat} {tpos apos cpos : Pos} {e : Expr} {f : FE} (he : SE X e f) (hbase : attributeBase e "items" X.env (eval e X.env) = eval e X.env := by rfl) (hline : (apos.endLine == cpos.line) = true := by rfl) :
    SI X (.Tuple elts kk tpos) (.Call (.Attribute e "items" apos) [] [] cpos) (fItems f) := by
  obtain ⟨t, pe, re⟩ := he
  refine ⟨_, pi_items pe hbase hline, fun L st wk st' σ H m R h S l k => ?_⟩
  obtain ⟨⟨q, s1⟩, h1, h⟩ := Option.bind_eq_some_iff.mp h
  simp only at h
  split at h
  · rename_i n
    split at h
    · rename_i kvs e
      cases h
      refine re L st (.ref n) _ σ H m _ h1 S l fun v m1 H1 x1 S1 r1 => ?_
      obtain ⟨p, ep, hp⟩ := r1
      obtain ⟨o, ws, hw, kr⟩ := S1.at hp e
      refine ⟨p, o, ws, ep, hw, k _ m1 H1 x1 S1 ⟨fun i m' H' s' x S c hi => ⟨x.frz _ _ _ hw, ?_⟩, fun i d m' H' s' x S c hd => ?_⟩⟩
      · have hi' : i = (itemsT kvs).length := hi
        unfold itemsT at hi'
        rw [List.length_map, kr.len] at hi'
        exact Nat.le_of_eq hi'.symm
      · have hd' : (itemsT kvs)[i]? = some d := hd
        unfold itemsT at hd'
        rw [List.getElem?_map] at hd'
        obtain ⟨kv, hkv, hd'⟩ := Option.map_eq_some_iff.mp hd'
        subst hd'
        obtain ⟨q, hq, e1, rq⟩ := KR.getI kr hkv
        refine ⟨⟨x.frz _ _ _ hw, (List.getElem?_eq_some_iff.mp hq).1⟩, fun u H2 y => ?_⟩
        obtain ⟨T, k2, v2, hkv2, rfl, hT, rfl⟩ := y
        rw [hq] at hkv2
        cases hkv2
        refine ⟨ext_tup hT, S.laidT hT, T, _, rfl, upd_same, _, _, rfl, ?_, v2, [], rfl, (rq.ext x).ext (ext_tup hT), rfl⟩
        rw [e1]
        exact kD_VR _
    · cases h
  · cases h

/-! ## a dict is locked -/
def isDict : O → Bool
  | .dK _ => true
  | .dT _ => true
  | _ => false
/-- the dict in slot i -/
def lkAt (i : Nat) (L : Loc) (s : Sto) : Option (Nat × O) := match L[i]? with
  | some (some (.ref n)) => match s[n]? with
    | some o => if isDict o = true then some (n, o) else none
    | none => none
  | _ => none
def fLk (i : Nat) (f : FS) : FS := fun L s => (lkAt i L s).bind fun c => (f L (s.set c.1 (.lk c.2))).bind fun q => some (q.1, q.2.1, q.2.2.set c.1 c.2)
theorem lk_unlock {m m' : List Addr} {H H' : Hp} {s s' : Sto} {n : Nat} {p : Addr} {o : O} {u : HO} {od : Obj} (hp : m[n]? = some p) (hu : H p = some u) (hnf : ∀ o' u', u ≠ .frz o' u') (hnt : ∀ vs, u ≠ .tup vs) (oro : OR m H o p)
    (x : Ext m (upd H p (.frz od u)) m' H') (S' : SimO m' H' s') : H' p = some (.frz od u) ∧ Ext m H m' (upd H' p u) ∧ SimO m' (upd H' p u) (s'.set n o) := by
  have e1 : H' p = some (.frz od u) := x.frz _ _ _ upd_same
  have x0 : Ext m H m' (upd H' p u) := by
    refine ⟨x.pre, fun q vs h => ?_, fun q o' u' h => ?_⟩
    · have hq : q ≠ p := fun e => by rw [e, hu] at h; exact hnt vs (Option.some.inj h)
      rw [upd_ne hq]
      exact x.tup _ _ (by rw [upd_ne hq]; exact h)
    · have hq : q ≠ p := fun e => by rw [e, hu] at h; exact hnf _ _ (Option.some.inj h)
      rw [upd_ne hq]
      exact x.frz _ _ _ (by rw [upd_ne hq]; exact h)
  exact ⟨e1, x0, S'.write (x.at hp) e1 (fun _ z => nomatch z) (oro.ext x0 (by rw [upd_same, hu])) fun o vs z => by cases z; exact hnt _ rfl⟩
theorem rs_lock {i : Nat} {t : TS} {f : FS} (h : RS t f) : RS (tLock t) (fLk i f) := by
  intro L s fl L' s' σ H m E hf S l k
  obtain ⟨⟨n, o⟩, h1, hf⟩ := Option.bind_eq_some_iff.mp hf
  obtain ⟨⟨fl9, L9, s9⟩, h2, hf⟩ := Option.bind_eq_some_iff.mp hf
  cases hf
  unfold lkAt at h1
  split at h1
  · rename_i n' eL
    split at h1
    · rename_i o' eo
      split at h1
      · rename_i hd
        cases h1
        obtain ⟨v, ev, p, rfl, hp⟩ := l.loc i _ eL
        have oro := S.at hp eo
        -- what stands there
        have key : ∃ u, H p = some u ∧ Mut (some u) ∧ (∀ o' u', u ≠ .frz o' u') ∧ (∀ vs, u ≠ .tup vs) ∧ ∀ od, OR m (upd H p (.frz od u)) (.lk o) p := by
          have xt : ∀ {u : HO} (od : Obj), H p = some u → (∀ vs, u ≠ .tup vs) → (∀ o vs, u ≠ .frz o (.tup vs)) → Ext0 m H m (upd H p (.frz od u)) := fun od hu hn hf => ext_write0 hu hn hf
          cases o with
          | dK kvs =>
            obtain ⟨ws, hw, kr⟩ := oro
            exact ⟨_, hw, trivial, (fun _ _ z => nomatch z), (fun _ z => nomatch z), fun od => ⟨od, ws, upd_same, kr.ext0 (xt od hw (fun _ z => nomatch z) fun _ _ z => nomatch z)⟩⟩
          | dT kvs =>
            obtain ⟨ws, hw, kr⟩ := oro
            exact ⟨_, hw, trivial, (fun _ _ z => nomatch z), (fun _ z => nomatch z), fun od => ⟨od, ws, upd_same, kr.ext0 (xt od hw (fun _ z => nomatch z) fun _ _ z => nomatch z)⟩⟩
          | _ => cases hd
        obtain ⟨u, hu, mu, hnf, hnt, orl⟩ := key
        refine ⟨p, u, hu, mu, fun od => ?_⟩
        have S1 : SimO m (upd H p (.frz od u)) (s.set n (.lk o)) := S.write hp hu hnt (orl od) fun o vs => hnf o _
        have l1 : LR m (upd H p (.frz od u)) L σ := ⟨l.len, fun j d e => by obtain ⟨w, e', r⟩ := l.loc j d e; exact ⟨w, e', r.ext0 (ext_write0 hu hnt fun o vs => hnf o _)⟩⟩
        refine h L _ fl9 L9 s9 σ _ m _ h2 S1 l1 ?_
        have fin := fun {m' : List Addr} {H' : Hp} (x : Ext m (upd H p (.frz od u)) m' H') (S' : SimO m' H' s9) => lk_unlock (s := s) hp hu hnf hnt oro x S'
        have ex0 : ∀ {m' : List Addr} {H' : Hp}, H' p = some (.frz od u) → Ext0 m' H' m' (upd H' p u) := fun e1 => ext_write0 e1 (fun _ z => nomatch z) fun o vs z => by cases z; exact hnt _ rfl
        cases fl9 with
        | nx => exact fun m' H' σ' x S' l' => let ⟨e1, x0, S9⟩ := fin x S'; ⟨e1, k m' _ σ' x0 S9 ⟨l'.len, fun j d e => by obtain ⟨w, e', r⟩ := l'.loc j d e; exact ⟨w, e', r.ext0 (ex0 e1)⟩⟩⟩
        | rt d => exact fun v' m' H' x S' r' => let ⟨e1, x0, S9⟩ := fin x S'; ⟨e1, k v' m' _ x0 S9 (r'.ext0 (ex0 e1))⟩
        | bk => exact fun m' H' σ' x S' l' => let ⟨e1, x0, S9⟩ := fin x S'; ⟨e1, k m' _ σ' x0 S9 ⟨l'.len, fun j d e => by obtain ⟨w, e', r⟩ := l'.loc j d e; exact ⟨w, e', r.ext0 (ex0 e1)⟩⟩⟩
        | ct => exact fun m' H' σ' x S' l' => let ⟨e1, x0, S9⟩ := fin x S'; ⟨e1, k m' _ σ' x0 S9 ⟨l'.len, fun j d e => by obtain ⟨w, e', r⟩ := l'.loc j d e; exact ⟨w, e', r.ext0 (ex0 e1)⟩⟩⟩
      · cases h1
    · cases h1
  · cases h1
theorem ss_lock {st : Stmt} {f : FS} (i : Nat) (h : SS X st f) : SS X st (fLk i f) := by
  obtain ⟨t, p, r⟩ := h
  exact ⟨_, ps_lock p, rs_lock r⟩
def fLkE (i : Nat) (f : FE) : FE := fun L s => (lkAt i L s).bind fun c => (f L (s.set c.1 (.lk c.2))).bind fun q => some (q.1, q.2.set c.1 c.2)
theorem re_lock {i : Nat} {t : TE} {f : FE} (h : RE t f) : RE (tLockE t) (fLkE i f) := by
  intro L s d' s' σ H m Q hf S l k
  obtain ⟨⟨n, o⟩, h1, hf⟩ := Option.bind_eq_some_iff.mp hf
  obtain ⟨⟨d9, s9⟩, h2, hf⟩ := Option.bind_eq_some_iff.mp hf
  cases hf
  unfold lkAt at h1
  split at h1
  · rename_i n' eL
    split at h1
    · rename_i o' eo
      split at h1
      · rename_i hd
        cases h1
        obtain ⟨v, ev, p, rfl, hp⟩ := l.loc i _ eL
        have oro := S.at hp eo
        have key : ∃ u, H p = some u ∧ Mut (some u) ∧ (∀ o' u', u ≠ .frz o' u') ∧ (∀ vs, u ≠ .tup vs) ∧ ∀ od, OR m (upd H p (.frz od u)) (.lk o) p := by
          have xt : ∀ {u : HO} (od : Obj), H p = some u → (∀ vs, u ≠ .tup vs) → (∀ o vs, u ≠ .frz o (.tup vs)) → Ext0 m H m (upd H p (.frz od u)) := fun od hu hn hf => ext_write0 hu hn hf
          cases o with
          | dK kvs =>
            obtain ⟨ws, hw, kr⟩ := oro
            exact ⟨_, hw, trivial, (fun _ _ z => nomatch z), (fun _ z => nomatch z), fun od => ⟨od, ws, upd_same, kr.ext0 (xt od hw (fun _ z => nomatch z) fun _ _ z => nomatch z)⟩⟩
          | dT kvs =>
            obtain ⟨ws, hw, kr⟩ := oro
            exact ⟨_, hw, trivial, (fun _ _ z => nomatch z), (fun _ z => nomatch z), fun od => ⟨od, ws, upd_same, kr.ext0 (xt od hw (fun _ z => nomatch z) fun _ _ z => nomatch z)⟩⟩
          | _ => cases hd
        obtain ⟨u, hu, mu, hnf, hnt, orl⟩ := key
        refine ⟨p, u, hu, mu, fun od => ?_⟩
        have S1 : SimO m (upd H p (.frz od u)) (s.set n (.lk o)) := S.write hp hu hnt (orl od) fun o vs => hnf o _
        have l1 : LR m (upd H p (.frz od u)) L σ := ⟨l.len, fun j d e => by obtain ⟨w, e', r⟩ := l.loc j d e; exact ⟨w, e', r.ext0 (ext_write0 hu hnt fun o vs => hnf o _)⟩⟩
        refine h L _ d9 s9 σ _ m _ h2 S1 l1 ?_
        have fin := fun {m' : List Addr} {H' : Hp} (x : Ext m (upd H p (.frz od u)) m' H') (S' : SimO m' H' s9) => lk_unlock (s := s) hp hu hnf hnt oro x S'
        have ex0 : ∀ {m' : List Addr} {H' : Hp}, H' p = some (.frz od u) → Ext0 m' H' m' (upd H' p u) := fun e1 => ext_write0 e1 (fun _ z => nomatch z) fun o vs z => by cases z; exact hnt _ rfl
        exact fun v' m' H' x S' r' => let ⟨e1, x0, S9⟩ := fin x S'; ⟨e1, k v' m' _ x0 S9 (r'.ext0 (ex0 e1))⟩
      · cases h1
    · cases h1
  · cases h1
theorem se_lock {e : Expr} {f : FE} (i : Nat) (h : SE X e f) : SE X e (fLkE i f) := by
  obtain ⟨t, p, r⟩ := h
  exact ⟨_, pe_lock p, re_lock r⟩
end
end FL

set_option Elab.async false
set_option linter.all false
set_option maxRecDepth 100000
set_option autoImplicit false
namespace FL
open PySem PySem.Spec PyProof.Rows L2

/-! ## methods by value -/
def OM (r : V → List V → Hp → VK → Prop) (fo : D → List D → Sto → Option (D × Sto)) : Prop := ∀ (x : D) (xs : List D) (st : Sto) (d : D) (st' : Sto) (H : Hp) (m : List Addr) (v : V) (vs : List V) (Q : VK), fo x xs st = some (d, st') → SimO m H st → VR m H x v → VRs m H xs vs →
  (∀ u m' H', Ext m H m' H' → SimO m' H' st' → VR m' H' d u → Q u H') → r v vs H Q
/-- its type is known, and it has no dict of its own -/
def tyW (K : PySem.W.Frag) (T : String) (x : V) (H : Hp) : Prop := tyV K T x H ∨ (T = "tuple" ∧ ∃ p o vs, x = .ref p ∧ H p = some (.frz o (.tup vs)) ∧ o.dict = none)
theorem tyW_is {X : Cx} {pins : List (Addr × Obj)} {σ : L2.St} {H : Hp} {s : Shared} {T : String} {x : V} {v : Value} (I : Inv X pins σ H s) (r : RelV x v) (ty : tyW X.K T x H) : s.TypeIs v T ∧ ∀ a, v = .ref a → ∃ ob, s.heap.get? a = some ob ∧ ob.dict = none := by
  rcases ty with ty | ⟨rfl, p, o, vs, rfl, hp, hd⟩
  · exact tyV_is I r ty
  · cases r
    obtain ⟨e, _, _, _, o2, e2, c, _⟩ := (show ObjOk X.prog X.w H s.heap p (.frz o (.tup vs)) from I.hok p _ hp)
    rw [e] at e2
    cases e2
    exact ⟨⟨o, e, c⟩, fun a ea => by cases ea; exact ⟨o, e, hd⟩⟩
def tyD (T : String) (s : Sto) (x : D) : Bool := match x with
  | .ft _ => T == "tuple"
  | .str _ => T == "str"
  | x => (lstD s x).isSome && T == "list"
theorem tyD_ok {K : PySem.W.Frag} {m : List Addr} {H : Hp} {st : Sto} (S : SimO m H st) {T : String} {x : D} {v : V} (h : tyD T st x = true) (r : VR m H x v) : tyW K T v H := by
  unfold tyD at h
  split at h
  · obtain ⟨p, o, vs, e, hp, hd, _⟩ := r
    exact .inr ⟨eq_of_beq h, p, o, vs, e, hp, hd⟩
  · rw [show v = _ from r]
    exact .inl (eq_of_beq h)
  · simp only [Bool.and_eq_true, Option.isSome_iff_exists] at h
    obtain ⟨⟨ds, h1⟩, h2⟩ := h
    obtain ⟨p, vs, e, hq, _⟩ := lstD_ok (K := K) S h1 r
    rw [e]
    exact .inl (.inl ⟨eq_of_beq h2, vs, hq⟩)
def tBMW (K : PySem.W.Frag) (T : String) (r : V → List V → Hp → VK → Prop) (to : TE) (t : TA) : TE := fun σ H Q => to σ H fun x H1 => tyW K T x H1 ∧ t σ H1 fun xs H2 => r x xs H2 Q
section
variable {X : Cx} {o e : Expr} {es : List Expr} {name : Str} {apos cpos : Pos} {T id : String} {r : V → List V → Hp → VK → Prop}
theorem pe_bmW {to : TE} {t : TA} (pa : PlainAttrs T) (slot : Slot T name id) (hty : typeOf (.builtin id) = pure (.type "method_descriptor")) (hm : MtR X id r) (ho : PE X o to) (ha : PA X (e :: es) t)
    (hbase : attributeBase o name X.env (eval o X.env) = eval o X.env)
    (hfew : ((backTo cpos (starEach (e :: es) X.env)).all (fun x => !x.1) && (backToKw cpos (keywordEach [] X.env)).all (fun x => x.1.isSome)
      && decide ((e :: es).length + ([] : List Keyword).length + (if ([] : List Keyword).isEmpty then 0 else 1) < 30)) = true)
    (hline : (apos.endLine == cpos.line) = true) (hs : starEach (e :: es) X.env = (false, eval e X.env) :: starEach es X.env) (hplain : (backTo cpos (starEach es X.env)).any (·.1) = false) :
    PE X (.Call (.Attribute o name apos) (e :: es) [] cpos) (tBMW X.K T r to t) := by
  refine ⟨fun pins s σ H Q I h => ?_⟩
  refine wpAny_Call_method_late hbase hfew hline rfl (thn (ho.run pins s σ H _ I h) fun v s1 ⟨x, H1, I1, r1, ty, q1⟩ => ?_)
  obtain ⟨h1, h2⟩ := tyW_is I1 r1 ty
  refine ⟨T, id, pa, slot, hty, h1, h2, ?_⟩
  have hA := ha.run cpos pins s1 σ H1 _ I1 q1
  rw [hs] at hA ⊢
  refine Calls.callWith_builtin (by show (false || (backTo cpos (starEach es X.env)).any (·.1)) = false; rw [hplain] <;> rfl) (Calls.evalArgs_plain ?_)
  exact thn hA fun us s2 ⟨vs, H2, I2, r2, q2⟩ => hm pins s2 σ H2 x vs v us Q I2 r1 r2 q2
def fM (T : String) (fo : D → List D → Sto → Option (D × Sto)) (fr : FE) (ga : FA) : FE := fun L s => (fr L s).bind fun p => if tyD T p.2 p.1 = true then (ga L p.2).bind fun q => fo p.1 q.1 q.2 else none
theorem se_m {fo : D → List D → Sto → Option (D × Sto)} {fr : FE} {ga : FA} (pa : PlainAttrs T) (slot : Slot T name id) (hty : typeOf (.builtin id) = pure (.type "method_descriptor")) (hm : MtR X id r) (h : OM r fo) (ho : SE X o fr) (ha : SA X (e :: es) ga)
    (hbase : attributeBase o name X.env (eval o X.env) = eval o X.env := by rfl)
    (hfew : ((backTo cpos (starEach (e :: es) X.env)).all (fun x => !x.1) && (backToKw cpos (keywordEach [] X.env)).all (fun x => x.1.isSome)
      && decide ((e :: es).length + ([] : List Keyword).length + (if ([] : List Keyword).isEmpty then 0 else 1) < 30)) = true := by rfl)
    (hline : (apos.endLine == cpos.line) = true := by rfl) (hs : starEach (e :: es) X.env = (false, eval e X.env) :: starEach es X.env := by rfl) (hplain : (backTo cpos (starEach es X.env)).any (·.1) = false := by rfl) :
    SE X (.Call (.Attribute o name apos) (e :: es) [] cpos) (fM T fo fr ga) := by
  obtain ⟨to, po, ro⟩ := ho
  obtain ⟨ta, pp, ra⟩ := ha
  refine ⟨_, pe_bmW pa slot hty hm po pp hbase hfew hline hs hplain, fun L st d st' σ H m Q hf S l k => ?_⟩
  obtain ⟨⟨x, s1⟩, h1, hf⟩ := Option.bind_eq_some_iff.mp hf
  simp only at hf
  split at hf
  · rename_i hty
    obtain ⟨⟨xs, s2⟩, h2, hf⟩ := Option.bind_eq_some_iff.mp hf
    refine ro L st x s1 σ H m _ h1 S l fun v m1 H1 x1 S1 r1 => ⟨tyD_ok S1 hty r1, ?_⟩
    refine ra L s1 xs s2 σ H1 m1 _ h2 S1 (l.ext x1) fun vs m2 H2 x2 S2 r2 => ?_
    exact h x xs s2 d st' H2 m2 v vs Q hf S2 (r1.ext x2) r2 fun u m3 H3 x3 => k u m3 H3 ((x1.trans x2).trans x3)
  · cases hf
end
/-! append, extend, pop(i), index -/
def appD : D → List D → Sto → Option (D × Sto) := fun x xs s => match x, xs with
  | .ref n, [y] => match s[n]? with
    | some (.lst ds) => if ds.length < sizeLine then some (.non, s.set n (.lst (ds ++ [y]))) else none
    | _ => none
  | _, _ => none
theorem om_append : OM rAppend appD := by
  intro x xs st d st' H m v vs Q h S rx rs k
  unfold appD at h
  split at h
  · rename_i n y
    split at h
    · rename_i ds e
      split at h
      · rename_i hz
        cases h
        obtain ⟨p, ep, hp⟩ := rx
        obtain ⟨w, ew, rw'⟩ := rs.one
        obtain ⟨ws, hw, kr⟩ := S.at hp e
        have xw : Ext m H m (upd H p (.lst (ws ++ [w]))) := ext_write hw fun _ z => nomatch z
        exact ⟨p, ws, w, ep, ew, hw, by rw [← kr.len]; exact hz, k _ m _ xw (S.write hp hw (fun _ z => nomatch z) ⟨_, upd_same, VRs.snoc (kr.ext xw) (rw'.ext xw)⟩) rfl⟩
      · cases h
    · cases h
  · cases h
def extD : D → List D → Sto → Option (D × Sto) := fun x xs s => match x, xs with
  | .ref n, [.ref k] => match s[n]?, s[k]? with
    | some (.lst ds), some (.lst es) => if ds.length + es.length ≤ sizeLine then some (.non, s.set n (.lst (ds ++ es))) else none
    | _, _ => none
  | _, _ => none
theorem om_extend : OM rExtend extD := by
  intro x xs st d st' H m v vs Q h S rx rs k
  unfold extD at h
  split at h
  · rename_i n j
    split at h
    · rename_i ds es e1 e2
      split at h
      · rename_i hz
        cases h
        obtain ⟨p, ep, hp⟩ := rx
        obtain ⟨w, ew, q, eq, hq⟩ := rs.one
        obtain ⟨ws, hw, kr⟩ := S.at hp e1
        obtain ⟨us, hu, kr2⟩ := S.at hq e2
        have xw : Ext m H m (upd H p (.lst (ws ++ us))) := ext_write hw fun _ z => nomatch z
        exact ⟨p, q, ws, us, ep, by rw [ew, eq], hw, hu, by rw [← kr.len, ← kr2.len]; exact hz, k _ m _ xw (S.write hp hw (fun _ z => nomatch z) ⟨_, upd_same, VRs.app (kr.ext xw) (kr2.ext xw)⟩) rfl⟩
      · cases h
    · cases h
  · cases h
theorem VRs.erase {m : List Addr} {H : Hp} : ∀ {ds : List D} {vs : List V} (i : Nat), VRs m H ds vs → VRs m H (ds.eraseIdx i) (vs.eraseIdx i)
  | [], _, i, h => by rw [show _ = [] from h]; exact rfl
  | d :: ds, _, 0, h => by
    obtain ⟨v, t, e, _, h2⟩ := h
    rw [e]
    exact h2
  | d :: ds, _, i + 1, h => by
    obtain ⟨v, t, e, h1, h2⟩ := h
    rw [e]
    exact ⟨v, _, rfl, h1, VRs.erase i h2⟩
def popD : D → List D → Sto → Option (D × Sto) := fun x xs s => match x, xs with
  | .ref n, [.int i] => match s[n]? with
    | some (.lst ds) => if (decide (-(2 ^ 63) ≤ i) && decide (i < 2 ^ 63)) = true then (seqIndex? i ds.length).bind fun k => (ds[k]?).map fun d => (d, s.set n (.lst (ds.eraseIdx k))) else none
    | _ => none
  | _, _ => none
theorem om_popAt : OM rPopAt popD := by
  intro x xs st d st' H m v vs Q h S rx rs k
  unfold popD at h
  split at h
  · rename_i n i
    split at h
    · rename_i ds e
      split at h
      · rename_i hz
        obtain ⟨j, hj, h⟩ := Option.bind_eq_some_iff.mp h
        obtain ⟨c, hc, h⟩ := Option.map_eq_some_iff.mp h
        cases h
        simp only [Bool.and_eq_true, decide_eq_true_eq] at hz
        obtain ⟨p, ep, hp⟩ := rx
        obtain ⟨w, ew, rw'⟩ := rs.one
        obtain ⟨ws, hw, kr⟩ := S.at hp e
        obtain ⟨y, hy, ry⟩ := kr.at hc
        have xw : Ext m H m (upd H p (.lst (ws.eraseIdx j))) := ext_write hw fun _ z => nomatch z
        exact ⟨p, ws, i, j, y, ep, by rw [ew, show w = _ from rw'], hw, hz.1, hz.2, by rw [← kr.len]; exact hj, hy, k _ m _ xw (S.write hp hw (fun _ z => nomatch z) ⟨_, upd_same, (kr.erase j).ext xw⟩) (ry.ext xw)⟩
      · cases h
    · cases h
  · cases h
/-- the first place of an equal one -/
def firstAt {α : Type} [DecidableEq α] (x : α) : List α → Nat → Option Nat
  | [], _ => none
  | y :: r, i => if y = x then some i else firstAt x r (i + 1)
theorem firstAt_ok {α : Type} [DecidableEq α] {x : α} : ∀ {l : List α} {i j : Nat}, firstAt x l i = some j → ∃ k, j = i + k ∧ l[k]? = some x ∧ ∀ n, n < k → l[n]? ≠ some x
  | [], i, j, h => by cases h
  | y :: r, i, j, h => by
    unfold firstAt at h
    split at h
    · rename_i e
      cases h
      exact ⟨0, rfl, by simp [e], fun n hn => absurd hn (Nat.not_lt_zero _)⟩
    · rename_i ne
      obtain ⟨k, e1, e2, e3⟩ := firstAt_ok h
      refine ⟨k + 1, by omega, by simpa using e2, fun n hn => ?_⟩
      cases n with
      | zero =>
        intro z
        simp at z
        exact ne z
      | succ n =>
        intro z
        exact e3 n (by omega) (by simpa using z)
def idxID : D → List D → Sto → Option (D × Sto) := fun x xs s => match xs with
  | [.int y] => (lstD s x).bind fun ds => (intsD ds).bind fun ns => (firstAt y ns 0).map fun j => (.int (j : Nat), s)
  | _ => none
theorem om_idxI (K : PySem.W.Frag) : OM (rIndex K) idxID := by
  intro x xs st d st' H m v vs Q h S rx rs k
  unfold idxID at h
  split at h
  · rename_i y
    obtain ⟨ds, h1, h⟩ := Option.bind_eq_some_iff.mp h
    obtain ⟨ns, h2, h⟩ := Option.bind_eq_some_iff.mp h
    obtain ⟨j, h3, h⟩ := Option.map_eq_some_iff.mp h
    cases h
    obtain ⟨p, ws, ep, hq, rw'⟩ := lstD_ok (K := K) S h1 rx
    obtain ⟨w, ew, rv⟩ := rs.one
    have e2 := intsD_ok h2 rw'
    obtain ⟨n, en, e3, e4⟩ := firstAt_ok h3
    have ej : j = n := by omega
    subst ej
    refine ⟨p, ns.map V.int, .int y, j, .int y, ep, by rw [ew, show w = _ from rv], by rw [← e2]; exact hq, rfl, ?_, by rw [List.getElem?_map, e3]; rfl, ?_, fun q z hq' hz => ?_, k _ m H (Ext.refl _ _) S rfl⟩
    · rw [List.all_map]
      exact List.all_eq_true.mpr fun _ _ => rfl
    · simp [eqV]
    · rw [List.getElem?_map] at hz
      obtain ⟨c, hc, rfl⟩ := Option.map_eq_some_iff.mp hz
      have : c ≠ y := fun e => e4 q hq' (by rw [hc, e])
      simpa [eqV] using this
  · cases h
def strsD : List D → Option (List Str)
  | [] => some []
  | .str b :: r => (strsD r).map (b :: ·)
  | _ :: _ => none
theorem strsD_ok {m : List Addr} {H : Hp} : ∀ {ds : List D} {vs : List V} {bs : List Str}, strsD ds = some bs → VRs m H ds vs → vs = bs.map V.str
  | [], vs, bs, h, r => by cases h; exact r
  | .str b :: t, vs, bs, h, r => by
    obtain ⟨br, h1, h⟩ := Option.map_eq_some_iff.mp h
    subst h
    obtain ⟨v, w, e, r1, r2⟩ := r
    rw [e, show v = _ from r1, strsD_ok h1 r2]
    rfl
  | .non :: _, _, _, h, _ => by cases h
  | .bl _ :: _, _, _, h, _ => by cases h
  | .int _ :: _, _, _, h, _ => by cases h
  | .tup _ :: _, _, _, h, _ => by cases h
  | .ft _ :: _, _, _, h, _ => by cases h
  | .ref _ :: _, _, _, h, _ => by cases h
  | .ty _ :: _, _, _, h, _ => by cases h
def idxTD : D → List D → Sto → Option (D × Sto) := fun x xs s => match x, xs with
  | .ft ds, [.str y] => (strsD ds).bind fun ns => (firstAt y ns 0).map fun j => (.int (j : Nat), s)
  | _, _ => none
theorem om_idxT (K : PySem.W.Frag) : OM (fun x xs H Q => ∃ p, ∃ ys : List Str, ∃ z j, x = .ref p ∧ xs = [.str z] ∧ SqT K H p (ys.map V.str) ∧ ys[j]? = some z ∧ (∀ m, m < j → ys[m]? ≠ some z) ∧ Q (.int (j : Nat)) H) idxTD := by
  intro x xs st d st' H m v vs Q h S rx rs k
  unfold idxTD at h
  split at h
  · rename_i ds y
    obtain ⟨ns, h2, h⟩ := Option.bind_eq_some_iff.mp h
    obtain ⟨j, h3, h⟩ := Option.map_eq_some_iff.mp h
    cases h
    obtain ⟨p, o, ws, ep, hp, _, rw'⟩ := rx
    obtain ⟨w, ew, rv⟩ := rs.one
    have e2 := strsD_ok h2 rw'
    subst e2
    obtain ⟨n, en, e3, e4⟩ := firstAt_ok h3
    have ej : j = n := by omega
    subst ej
    exact ⟨p, ns, y, j, ep, by rw [ew, show w = _ from rv], .inl (.inr ⟨o, hp⟩), e3, e4, k _ m H (Ext.refl _ _) S rfl⟩
  · cases h
section
variable {X : Cx} {o e f : Expr} {apos cpos : Pos} {fr fe : FE}
theorem sa_one (h : SE X e fe) (hs : starEach [e] X.env = (false, eval e X.env) :: starEach [] X.env := by rfl) : SA X [e] (fAc fe fA0) := sa_cons h sa_nil hs
theorem se_append (ho : SE X o fr) (ha : SE X e fe) (hbase : attributeBase o "append" X.env (eval o X.env) = eval o X.env := by rfl)
    (hfew : ((backTo cpos (starEach [e] X.env)).all (fun x => !x.1) && (backToKw cpos (keywordEach [] X.env)).all (fun x => x.1.isSome)
      && decide (([e] : List Expr).length + ([] : List Keyword).length + (if ([] : List Keyword).isEmpty then 0 else 1) < 30)) = true := by rfl)
    (hline : (apos.endLine == cpos.line) = true := by rfl) (hs : starEach [e] X.env = (false, eval e X.env) :: starEach [] X.env := by rfl) :
    SE X (.Call (.Attribute o "append" apos) [e] [] cpos) (fM "list" appD fr (fAc fe fA0)) := se_m F.plainAttrs_list F.slot_list_append F.type_list_append mt_append om_append ho (sa_one ha hs) hbase hfew hline hs
theorem se_extend (ho : SE X o fr) (ha : SE X e fe) (hbase : attributeBase o "extend" X.env (eval o X.env) = eval o X.env := by rfl)
    (hfew : ((backTo cpos (starEach [e] X.env)).all (fun x => !x.1) && (backToKw cpos (keywordEach [] X.env)).all (fun x => x.1.isSome)
      && decide (([e] : List Expr).length + ([] : List Keyword).length + (if ([] : List Keyword).isEmpty then 0 else 1) < 30)) = true := by rfl)
    (hline : (apos.endLine == cpos.line) = true := by rfl) (hs : starEach [e] X.env = (false, eval e X.env) :: starEach [] X.env := by rfl) :
    SE X (.Call (.Attribute o "extend" apos) [e] [] cpos) (fM "list" extD fr (fAc fe fA0)) := se_m F.plainAttrs_list F.slot_list_extend F.type_list_extend mt_extend om_extend ho (sa_one ha hs) hbase hfew hline hs
theorem se_popAt (ho : SE X o fr) (ha : SE X e fe) (hbase : attributeBase o "pop" X.env (eval o X.env) = eval o X.env := by rfl)
    (hfew : ((backTo cpos (starEach [e] X.env)).all (fun x => !x.1) && (backToKw cpos (keywordEach [] X.env)).all (fun x => x.1.isSome)
      && decide (([e] : List Expr).length + ([] : List Keyword).length + (if ([] : List Keyword).isEmpty then 0 else 1) < 30)) = true := by rfl)
    (hline : (apos.endLine == cpos.line) = true := by rfl) (hs : starEach [e] X.env = (false, eval e X.env) :: starEach [] X.env := by rfl) :
    SE X (.Call (.Attribute o "pop" apos) [e] [] cpos) (fM "list" popD fr (fAc fe fA0)) := se_m F.plainAttrs_list F.slot_list_pop F.type_list_pop mt_popAt om_popAt ho (sa_one ha hs) hbase hfew hline hs
theorem se_idxL (ho : SE X o fr) (ha : SE X e fe) (hbase : attributeBase o "index" X.env (eval o X.env) = eval o X.env := by rfl)
    (hfew : ((backTo cpos (starEach [e] X.env)).all (fun x => !x.1) && (backToKw cpos (keywordEach [] X.env)).all (fun x => x.1.isSome)
      && decide (([e] : List Expr).length + ([] : List Keyword).length + (if ([] : List Keyword).isEmpty then 0 else 1) < 30)) = true := by rfl)
    (hline : (apos.endLine == cpos.line) = true := by rfl) (hs : starEach [e] X.env = (false, eval e X.env) :: starEach [] X.env := by rfl) :
    SE X (.Call (.Attribute o "index" apos) [e] [] cpos) (fM "list" idxID fr (fAc fe fA0)) := se_m F.plainAttrs_list F.slot_list_index F.type_list_index mt_index (om_idxI X.K) ho (sa_one ha hs) hbase hfew hline hs
theorem se_idxT (ho : SE X o fr) (ha : SE X e fe) (hbase : attributeBase o "index" X.env (eval o X.env) = eval o X.env := by rfl)
    (hfew : ((backTo cpos (starEach [e] X.env)).all (fun x => !x.1) && (backToKw cpos (keywordEach [] X.env)).all (fun x => x.1.isSome)
      && decide (([e] : List Expr).length + ([] : List Keyword).length + (if ([] : List Keyword).isEmpty then 0 else 1) < 30)) = true := by rfl)
    (hline : (apos.endLine == cpos.line) = true := by rfl) (hs : starEach [e] X.env = (false, eval e X.env) :: starEach [] X.env := by rfl) :
    SE X (.Call (.Attribute o "index" apos) [e] [] cpos) (fM "tuple" idxTD fr (fAc fe fA0)) := se_m F.plainAttrs_tuple F.slot_tuple_index F.type_tuple_index mt_tup_index (om_idxT X.K) ho (sa_one ha hs) hbase hfew hline hs
end
end FL

set_option Elab.async false
set_option linter.all false
set_option maxRecDepth 100000
set_option autoImplicit false
namespace FL
open PySem PySem.Spec PyProof.Rows L2

/-! ## d.get(k, x), d.setdefault(k, x) -/
def isDictR (s : Sto) : D → Bool
  | .ref n => match (s[n]?).map unlk with
    | some (.dK _) => true
    | some (.dT _) => true
    | _ => false
  | _ => false
theorem isDictR_ok {m : List Addr} {H : Hp} {st : Sto} (S : SimO m H st) {x : D} {v : V} (h : isDictR st x = true) (r : VR m H x v) : ∃ a, v = .ref a ∧ IsD H a := by
  unfold isDictR at h
  split at h
  · rename_i n
    obtain ⟨p, ep, hp⟩ := r
    refine ⟨p, ep, ?_⟩
    cases e : st[n]? with
    | none => rw [e] at h; cases h
    | some o =>
      rw [e, Option.map_some] at h
      have q := S.at hp e
      split at h
      · rename_i kvs eo
        obtain ⟨ws, hw, _⟩ := q.dK (Option.some.inj eo)
        exact .inl ⟨ws, hw⟩
      · rename_i kvs eo
        obtain ⟨ws, hw, _⟩ := q.dT (Option.some.inj eo)
        exact .inr ⟨ws, hw⟩
      · cases h
  · cases h
def fGet2 (fd fk fx : FE) : FE := fun L s => (fd L s).bind fun p => if isDictR p.2 p.1 = true then (fk L p.2).bind fun q => (fx L q.2).bind fun r => match p.1 with
  | .ref n => (dget r.2 n q.1).map fun o => (o.getD r.1, r.2)
  | _ => none
  else none
def fSetd (fd fk fx : FE) : FE := fun L s => (fd L s).bind fun p => if isDictR p.2 p.1 = true then (fk L p.2).bind fun q => (fx L q.2).bind fun r => match p.1 with
  | .ref n => match r.2[n]? with
    | some (.dK kvs) => (keyD q.1).bind fun k => if kvs.length < sizeLine then (match valD kvs k with
      | some d => some (d, r.2)
      | none => some (r.1, r.2.set n (.dK (putD kvs k r.1)))) else none
    | _ => none
  | _ => none
  else none
section
variable {X : Cx} {o e f : Expr} {apos cpos pos : Pos} {fd fk fx : FE}
theorem se_get2 (hu : X.A.units + 64 < cLine) (ho : SE X o fd) (he : SE X e fk) (hf : SE X f fx) (hbase : attributeBase o "get" X.env (eval o X.env) = eval o X.env := by rfl)
    (hfew : ((backTo cpos (starEach [e, f] X.env)).all (fun x => !x.1) && (backToKw cpos (keywordEach [] X.env)).all (fun x => x.1.isSome)
      && decide (([e, f] : List Expr).length + ([] : List Keyword).length + (if ([] : List Keyword).isEmpty then 0 else 1) < 30)) = true := by rfl)
    (hline : (apos.endLine == cpos.line) = true := by rfl) (ht : backTo cpos (starEach [e, f] X.env) = [(false, eval e X.env), (false, eval f X.env)] := by rfl) : SE X (.Call (.Attribute o "get" apos) [e, f] [] cpos) (fGet2 fd fk fx) := by
  obtain ⟨to, po, ro⟩ := ho
  obtain ⟨tk, pk, rk⟩ := he
  obtain ⟨tx, px, rx⟩ := hf
  refine ⟨_, pe_dget2 (by omega) po pk px ⟨hbase, hfew, hline, ht⟩, fun L st d st' σ H m Q h S l k => ?_⟩
  obtain ⟨⟨x, s1⟩, h1, h⟩ := Option.bind_eq_some_iff.mp h
  simp only at h
  split at h
  · rename_i hd
    obtain ⟨⟨y, s2⟩, h2, h⟩ := Option.bind_eq_some_iff.mp h
    obtain ⟨⟨z, s3⟩, h3, h⟩ := Option.bind_eq_some_iff.mp h
    refine ro L st x s1 σ H m _ h1 S l fun v m1 H1 x1 S1 r1 => ?_
    obtain ⟨a, ea, da⟩ := isDictR_ok S1 hd r1
    refine ⟨a, ea, da, rk L s1 y s2 σ H1 m1 _ h2 S1 (l.ext x1) fun w m2 H2 x2 S2 r2 => ?_⟩
    refine rx L s2 z s3 σ H2 m2 _ h3 S2 (l.ext (x1.trans x2)) fun u m3 H3 x3 S3 r3 => ?_
    have x13 := (x1.trans x2).trans x3
    simp only at h
    split at h
    · rename_i n
      obtain ⟨ov, ho, h⟩ := Option.map_eq_some_iff.mp h
      cases h
      obtain ⟨p, ep, hp⟩ := r1
      rw [ep] at ea
      cases ea
      rcases dget_ok S3 ho ((x2.trans x3).at hp) (r2.ext x3) with ⟨e1, g⟩ | ⟨d', v', e1, g, rv⟩
      · subst e1
        exact ⟨none, g, k u m3 H3 x13 S3 r3⟩
      · subst e1
        exact ⟨some v', g, k v' m3 H3 x13 S3 rv⟩
    · cases h
  · cases h
theorem se_setd (ho : SE X o fd) (he : SE X e fk) (hf : SE X f fx) (hbase : attributeBase o "setdefault" X.env (eval o X.env) = eval o X.env := by rfl)
    (hfew : ((backTo cpos (starEach [e, f] X.env)).all (fun x => !x.1) && (backToKw cpos (keywordEach [] X.env)).all (fun x => x.1.isSome)
      && decide (([e, f] : List Expr).length + ([] : List Keyword).length + (if ([] : List Keyword).isEmpty then 0 else 1) < 30)) = true := by rfl)
    (hline : (apos.endLine == cpos.line) = true := by rfl) (ht : backTo cpos (starEach [e, f] X.env) = [(false, eval e X.env), (false, eval f X.env)] := by rfl) : SE X (.Call (.Attribute o "setdefault" apos) [e, f] [] cpos) (fSetd fd fk fx) := by
  obtain ⟨to, po, ro⟩ := ho
  obtain ⟨tk, pk, rk⟩ := he
  obtain ⟨tx, px, rx⟩ := hf
  refine ⟨_, pe_dsetd po pk px ⟨hbase, hfew, hline, ht⟩, fun L st d st' σ H m Q h S l k => ?_⟩
  obtain ⟨⟨x, s1⟩, h1, h⟩ := Option.bind_eq_some_iff.mp h
  simp only at h
  split at h
  · rename_i hd
    obtain ⟨⟨y, s2⟩, h2, h⟩ := Option.bind_eq_some_iff.mp h
    obtain ⟨⟨z, s3⟩, h3, h⟩ := Option.bind_eq_some_iff.mp h
    refine ro L st x s1 σ H m _ h1 S l fun v m1 H1 x1 S1 r1 => ?_
    obtain ⟨a, ea, da⟩ := isDictR_ok S1 hd r1
    refine ⟨a, ea, da, rk L s1 y s2 σ H1 m1 _ h2 S1 (l.ext x1) fun w m2 H2 x2 S2 r2 => ?_⟩
    refine rx L s2 z s3 σ H2 m2 _ h3 S2 (l.ext (x1.trans x2)) fun u m3 H3 x3 S3 r3 => ?_
    have x13 := (x1.trans x2).trans x3
    simp only at h
    split at h
    · rename_i n
      split at h
      · rename_i kvs e
        obtain ⟨ky, hk, h⟩ := Option.bind_eq_some_iff.mp h
        split at h
        · rename_i hz
          obtain ⟨p, ep, hp⟩ := r1
          rw [ep] at ea
          cases ea
          have hp3 := (x2.trans x3).at hp
          obtain ⟨ws, hw, kr⟩ := S3.at hp3 e
          refine ⟨ws, ky, hw, keyD_ok hk r2, by rw [← kr.len]; exact hz, fun v' hv => ?_, fun hn => ?_⟩
          · rcases KR.val ky kr with ⟨e1, e2⟩ | ⟨d', v2, e1, e2, rv⟩
            · rw [e2] at hv; cases hv
            · rw [e2] at hv; cases hv
              rw [e1] at h
              cases h
              exact k v' m3 H3 x13 S3 rv
          · rcases KR.val ky kr with ⟨e1, e2⟩ | ⟨d', v2, e1, e2, rv⟩
            · rw [e1] at h
              cases h
              have xw : Ext m3 H3 m3 (upd H3 a (.dK (putK ws ky u))) := ext_write hw fun _ z => nomatch z
              exact k u m3 _ (x13.trans xw) (S3.write hp3 hw (fun _ z => nomatch z) ⟨_, upd_same, (kr.put r3).ext xw⟩) (r3.ext xw)
            · rw [e2] at hn; cases hn
        · cases h
      · cases h
    · cases h
  · cases h

/-! ## displays -/
def fDK0 : FE := fun _ s => some (.ref s.length, s ++ [.dK []])
def fDT0 : FE := fun _ s => some (.ref s.length, s ++ [.dT []])
theorem se_dnewK : SE X (.Dict [] [] pos) fDK0 := ⟨_, pe_dnewK, fun L st d st' σ H m Q h S l k => by
  cases h
  intro p hp
  refine k _ (m ++ [p]) _ (ext_new hp) (S.laid hp ⟨[], upd_same, .nil⟩) ⟨p, rfl, ?_⟩
  rw [← S.len, List.getElem?_concat_length]⟩
theorem se_dnewT : SE X (.Dict [] [] pos) fDT0 := ⟨_, pe_dnewT, fun L st d st' σ H m Q h S l k => by
  cases h
  intro p hp
  refine k _ (m ++ [p]) _ (ext_new hp) (S.laid hp ⟨[], upd_same, .nil⟩) ⟨p, rfl, ?_⟩
  rw [← S.len, List.getElem?_concat_length]⟩
/-- {k: v} -/
def fDK1 (fk fv : FE) : FE := fun L s => (fk L (s ++ [.dK []])).bind fun p => (fv L p.2).bind fun q => match q.2[s.length]? with
  | some (.dK []) => (keyD p.1).map fun k => (.ref s.length, q.2.set s.length (.dK [(k, q.1)]))
  | _ => none
theorem se_disp1 {k v : Expr} {fk fv : FE} (hk : SE X k fk) (hv : SE X v fv) : SE X (.Dict [some k] [v] pos) (fDK1 fk fv) := by
  obtain ⟨tk, pk, rk⟩ := hk
  obtain ⟨tv, pv, rv⟩ := hv
  refine ⟨_, pe_disp (pps_cons pk pv pps_nil) rfl rfl (by simp) (by show 1 ≤ 15; decide), fun L st d st' σ H m Q h S l kk => ?_⟩
  obtain ⟨⟨y, s1⟩, h1, h⟩ := Option.bind_eq_some_iff.mp h
  obtain ⟨⟨z, s2⟩, h2, h⟩ := Option.bind_eq_some_iff.mp h
  intro p hp
  have S0 : SimO (m ++ [p]) (upd H p (.dK [])) (st ++ [.dK []]) := S.laid hp ⟨[], upd_same, .nil⟩
  have x0 : Ext m H (m ++ [p]) (upd H p (.dK [])) := ext_new hp
  have hat : (m ++ [p])[st.length]? = some p := by rw [← S.len, List.getElem?_concat_length]
  refine rk L _ y s1 σ _ (m ++ [p]) _ h1 S0 (l.ext x0) fun w m1 H1 x1 S1 r1 => ?_
  refine rv L s1 z s2 σ H1 m1 _ h2 S1 (l.ext (x0.trans x1)) fun u m2 H2 x2 S2 r2 => ?_
  simp only at h
  split at h
  · rename_i e
    obtain ⟨ky, hky, h⟩ := Option.map_eq_some_iff.mp h
    cases h
    have hp2 : m2[st.length]? = some p := (x1.trans x2).at hat
    obtain ⟨ws, hw, kr⟩ := S2.at hp2 e
    cases kr
    have xw : Ext m2 H2 m2 (upd H2 p (.dK (mergeK [] [(ky, u)]))) := ext_write hw fun _ z => nomatch z
    have em : mergeK [] [(ky, u)] = [(ky, u)] := by simp [mergeK, putK]
    refine ⟨hw, [(ky, u)], by rw [keyD_ok hky (r1.ext x2)]; rfl, by simp, ?_⟩
    refine kk _ m2 _ (((x0.trans x1).trans x2).trans xw) (S2.write hp2 hw (fun _ z => nomatch z) ⟨_, upd_same, ?_⟩) ⟨p, rfl, hp2⟩
    rw [em]
    exact .cons ⟨rfl, r2.ext (by rw [em] at xw; exact xw)⟩ .nil
  · cases h

/-! ## a, b, c = x, y, z -/
def fPar3 (i j l : Nat) (g : FA) : FS := fun L s => (g L s).bind fun q => match q.1 with | [a, b, c] => some (.nx, ((L.set i (some a)).set j (some b)).set l (some c), q.2) | _ => none
theorem ss_par3 {i j l : Nat} {x y z : Str} {a b c : Expr} {ga : FA} {px py pz pt : Pos} {kt k2 : Nat} {pt2 : Pos} (hc : X.calm = true) (hN : X.N.Nodup) (hi : X.N[i]? = some x) (hj : X.N[j]? = some y) (hl : X.N[l]? = some z) (hij : i ≠ j) (hil : i ≠ l) (hjl : j ≠ l)
    (hx : X.env.scope.names.lookup x = some .local) (hy : X.env.scope.names.lookup y = some .local) (hz : X.env.scope.names.lookup z = some .local) (ha : SA X [a, b, c] ga)
    (hw : swappedStores [.Tuple [.Name x px, .Name y py, .Name z pz] kt pt] (.Tuple [a, b, c] k2 pt2) X.env = pure (some [x, y, z]))
    (hs : swapsWithSole [.Tuple [.Name x px, .Name y py, .Name z pz] kt pt] (.Tuple [a, b, c] k2 pt2) pos.line X.env = pure false := by rfl) :
    SS X (.Assign [.Tuple [.Name x px, .Name y py, .Name z pz] kt pt] (.Tuple [a, b, c] k2 pt2) pos) (fPar3 i j l ga) := by
  obtain ⟨t, p, r⟩ := ha
  refine ⟨_, ps_par3 hc hN hi hj hl hij hil hjl hx hy hz p hw hs, fun L s fl L' s' σ H m E h S lr k => ?_⟩
  obtain ⟨⟨ds, s1⟩, e1, h⟩ := Option.bind_eq_some_iff.mp h
  refine r L s ds s1 σ H m _ e1 S lr fun vs m1 H1 x1 S1 r1 => ?_
  match ds, h, r1 with
  | [c, d, e], h, r1 =>
    cases h
    obtain ⟨v, vr, ev, rv, w, wr, ew, rw', u, ur, eu, ru, ez⟩ := r1
    refine ⟨v, w, u, by rw [ev, ew, eu, ez], ?_⟩
    exact k m1 H1 _ x1 S1 ((((lr.ext x1).set i rv).set j rw').set l ru)

/-! ## o[i] = v -/
def putO (o i v : D) (s : Sto) : Option Sto := match o with
  | .ref n => match s[n]? with
    | some (.lst ds) => match i with
      | .int k => (ixN ds.length k).map fun j => s.set n (.lst (ds.set j v))
      | _ => none
    | _ => dput s n i v
  | _ => none
def fPut (fv fo fi : FE) : FS := fun L s => (fv L s).bind fun p => (fo L p.2).bind fun q => (fi L q.2).bind fun r => (putO q.1 r.1 p.1 r.2).map fun s' => (.nx, L, s')
theorem PS.or {st : Stmt} {t t' : TS} (a : PS X st t) (b : PS X st t') : PS X st (fun D σ H => t D σ H ∨ t' D σ H) := ⟨fun pins s σ H D I h => h.elim (a.run pins s σ H D I) (b.run pins s σ H D I)⟩
theorem VRs.set {m : List Addr} {H : Hp} : ∀ {ds : List D} {vs : List V} (i : Nat) {d : D} {v : V}, VRs m H ds vs → VR m H d v → VRs m H (ds.set i d) (vs.set i v)
  | [], _, i, _, _, h, _ => by rw [show _ = [] from h]; exact rfl
  | c :: ds, _, 0, d, v, h, r => by
    obtain ⟨w, t, e, _, h2⟩ := h
    rw [e]
    exact ⟨v, t, rfl, r, h2⟩
  | c :: ds, _, i + 1, d, v, h, r => by
    obtain ⟨w, t, e, h1, h2⟩ := h
    rw [e]
    exact ⟨w, _, rfl, h1, VRs.set i h2 r⟩
theorem ss_put {i v : Expr} {pos' : Pos} {fv fo fi : FE} (hu : X.A.units + 64 < cLine) (ho : SE X o fo) (hi : SE X i fi) (hv : SE X v fv) (hs : swapsWith v (some (.Subscript o i pos')) pos.line X.env = pure false := by rfl)
    (hs2 : swapsWithSole [.Subscript o i pos'] v pos.line X.env = pure false := by rfl) (hw : swappedStores [.Subscript o i pos'] v X.env = pure none := by rfl) (h1 : (assignEach [.Subscript o i pos'] X.env).map (·.2) = [assign (.Subscript o i pos') X.env] := by rfl)
    (ha : ∀ u, assign (.Subscript o i pos') X.env u = (do
      let ov ← holding [u] (eval o X.env)
      let iv ← holding [u, ov] (eval i X.env)
      standAt pos'
      holding [u, ov, iv] (setItem ov iv u)
      release [u, ov, iv] []) := by intro _; rfl) :
    SS X (.Assign [.Subscript o i pos'] v pos) (fPut fv fo fi) := by
  obtain ⟨to, po, ro⟩ := ho
  obtain ⟨ti, pi, ri⟩ := hi
  obtain ⟨tv, pv, rv⟩ := hv
  refine ⟨_, PS.or (ps_asg pv (pg_sub po pi set_list ha) hs2 hw h1) (ps_dput (by omega) po pi pv hs), fun L s fl L' s' σ H m E h S l k => ?_⟩
  obtain ⟨⟨d, s1⟩, e1, h⟩ := Option.bind_eq_some_iff.mp h
  obtain ⟨⟨x, s2⟩, e2, h⟩ := Option.bind_eq_some_iff.mp h
  obtain ⟨⟨y, s3⟩, e3, h⟩ := Option.bind_eq_some_iff.mp h
  obtain ⟨s4, e4, h⟩ := Option.map_eq_some_iff.mp h
  cases h
  unfold putO at e4
  simp only at e4
  split at e4
  · rename_i n
    split at e4
    · rename_i ds eo
      split at e4
      · rename_i kx
        obtain ⟨j, hj, e4⟩ := Option.map_eq_some_iff.mp e4
        subst e4
        left
        refine rv L s d s1 σ H m _ e1 S l fun w m1 H1 x1 S1 r1 => ?_
        refine ro L s1 _ s2 σ H1 m1 _ e2 S1 (l.ext x1) fun u m2 H2 x2 S2 r2 => ?_
        refine ri L s2 _ s3 σ H2 m2 _ e3 S2 (l.ext (x1.trans x2)) fun z m3 H3 x3 S3 r3 => ?_
        have x13 := (x1.trans x2).trans x3
        obtain ⟨p, ep, hp⟩ := r2
        have hp3 := x3.at hp
        obtain ⟨ws, hw', kr⟩ := S3.at hp3 eo
        have rd := r1.ext (x2.trans x3)
        have xw : Ext m3 H3 m3 (upd H3 p (.lst (ws.set j w))) := ext_write hw' fun _ z => nomatch z
        exact ⟨p, ws, kx, j, ep, r3, hw', by rw [← kr.len]; exact hj, k m3 _ σ (x13.trans xw) (S3.write hp3 hw' (fun _ z => nomatch z) ⟨_, upd_same, ((kr.ext xw).set j (rd.ext xw))⟩) (l.ext (x13.trans xw))⟩
      · cases e4
    · right
      refine rv L s d s1 σ H m _ e1 S l fun w m1 H1 x1 S1 r1 => ?_
      refine ro L s1 _ s2 σ H1 m1 _ e2 S1 (l.ext x1) fun u m2 H2 x2 S2 r2 => ?_
      refine ri L s2 _ s3 σ H2 m2 _ e3 S2 (l.ext (x1.trans x2)) fun z m3 H3 x3 S3 r3 => ?_
      have x13 := (x1.trans x2).trans x3
      obtain ⟨p, ep, hp⟩ := r2
      obtain ⟨H4, g, xw, S4⟩ := dput_ok S3 e4 (x3.at hp) r3 (r1.ext (x2.trans x3))
      exact ⟨p, H4, ep, g, k m3 H4 σ (x13.trans xw) S4 (l.ext (x13.trans xw))⟩
  · cases e4
end
end FL

set_option Elab.async false
set_option linter.all false
set_option maxRecDepth 100000
set_option autoImplicit false
namespace FL
open PySem PySem.Spec PyProof.Rows L2

/-- the rule for a def without defaults, as the head tells it -/
theorem fnGD {P : Program} {w : World} {K : PySem.W.Frag} {mg : Str → Option Value} {base : Heap} {qual x : Str} {params : Arguments} {body : List Stmt} {scope : Scope} {kws : List (Str × V)} {f : Addr} {fd : FuncData} {N ps : List Str} {k : Nat} {B : FS} (Fn : FunD K x qual params body scope [] kws f fd) (S : FnScope N ps scope)
    (hB : ∀ (cdv : Value) (A : Around) (outer : List Env) (s : Shared) (H : Hp), Room k (A.deeper (envOfC qual scope s.heap.objs.size f cdv)) → A.guards = some [] → SSs (cxOf CX0 P w K mg base N qual scope f cdv A outer s H E0).nox body B) :
    FnG P w K mg base (k + 1) f fd ps (run N.length ps.length B) := by
  obtain ⟨oc, od, dV, kV, doc, pm, an, cdv, ct, osl, rfl, lk, hcd, _, _⟩ := Fn.ex
  constructor
  intro A outer s H args us vs m ds sto d sto' Q hr hgu e0 hb r hl hF SO rv kk
  have lvs : vs.length = ps.length := by rw [← rv.len]; exact hl
  have inK := e0.mod.kin.keeps fun b o e => (e0.bs b o e).1
  have free := e0.mod.nolimit.keeps fun b o e => (e0.bs b o e).1
  have kinds : ∀ y ∈ ps.zip us, scope.names.lookup y.1 = some .local ∨ (scope.names.lookup y.1 = some .cell ∧ ((cellsFrom (s.heap.objs.size + 1) scope.names []).lookup y.1).isSome = true) := by
    intro y hy
    obtain ⟨n, v⟩ := y
    exact (S.par n (List.of_mem_zip hy).1).imp id fun q => ⟨q, PySem.W.cellsFrom_some _ _ _ (.inl q)⟩
  have room := hr.deeper (envOfC qual scope s.heap.objs.size f cdv)
  obtain ⟨t, bodyR, reading⟩ := hB cdv A outer s H room hgu
  have key : ∃ (fl : Fl) (L9 : Loc) (s9 : Sto), B (startL N.length ds) sto = some (fl, L9, s9) ∧ ((∃ d9, fl = .rt d9 ∧ gc sto d9 s9 = (d, sto')) ∨ (fl = .nx ∧ gc sto .non s9 = (d, sto'))) := by
    unfold FL.run at hF
    rw [if_pos hl] at hF
    obtain ⟨⟨fl, L9, s9⟩, eB, hF⟩ := Option.bind_eq_some_iff.mp hF
    refine ⟨fl, L9, s9, eB, ?_⟩
    cases fl with
    | rt d9 => exact .inl ⟨d9, rfl, Option.some.inj hF⟩
    | nx => exact .inr ⟨rfl, Option.some.inj hF⟩
    | bk => cases hF
    | ct => cases hF
  obtain ⟨fl, L9, s9, eB, hfl⟩ := key
  refine codeAny_call_function hr.depth (inK _ _ lk) rfl S.co S.gen rfl (PySem.W.codeRec_of inK hcd) (hb _ _ _ _ ?_)
  refine wpAny_newFunctionEnv_cells S.kind kinds fun en hen s1 ic => ?_
  subst hen
  refine ⟨free.keeps ic.toInCall.keep, codeAny_func ?_⟩
  have I0 : Inv (cxOf CX0 P w K mg base N qual scope f cdv A outer s H E0) [] (start N vs) H s1 := inv_start S hr.hd e0 lvs r ic
  have wish : EO { nx := fun _ H' => Q .non H', rt := Q } m H fl L9 s9 := by
    rcases hfl with ⟨d9, rfl, eg⟩ | ⟨rfl, eg⟩
    · exact gc_ok SO eg kk
    · intro m' H' σ' x' S' _
      exact gc_ok SO eg kk .non m' H' x' S' (by simp [VR])
  have go := bodyR.nox.run [] s1 (start N vs) H { nx := fun _ H' => Q .non H', rt := Q } I0 (reading _ _ _ _ _ _ _ m _ eB SO (start_LR rv) wish)
  have over : ∀ {σ' : L2.St} {H' : Hp} {v : V} {u : Value} {s2 : Shared}, Inv (cxOf CX0 P w K mg base N qual scope f cdv A outer s H E0) [] σ' H' s2 → RelV v u → Q v H' → CR CX0 outer P w H s Q E0 (.ok (.ret u)) s2 := by
    intro σ' H' v u s2 J ru q
    exact ⟨v, H', J.os, J.bare, J.base, J.hok, ru, q⟩
  refine wpAny_mono go (fun fl2 s2 h2 => ?_) fun _ _ h2 => h2
  match fl2, h2 with
  | .next, h2 =>
    obtain ⟨σ', H', J, q⟩ := h2
    exact over (v := V.non) (u := Value.none) J rfl q
  | .ret u, h2 =>
    obtain ⟨v, σ', H', J, ru, q⟩ := h2
    exact over J ru q
  | .brk, h2 => exact (h2.elim fun _ z => z.elim fun _ q => q.2).elim
  | .cont, h2 => exact (h2.elim fun _ z => z.elim fun _ q => q.2).elim

/-! ## the law's call -/
theorem ints_VRs {m : List Addr} {H : Hp} : ∀ ns : List Int, VRs m H (ns.map D.int) (ns.map V.int)
  | [] => rfl
  | n :: ns => ⟨_, _, rfl, rfl, ints_VRs ns⟩
theorem lawG {P : Program} {w : World} {K : PySem.W.Frag} {mg mb : Str → Option Value} {k : Nat} {fa a : Addr} {fd : FuncData} {x : Str} {F : FF} {t : Shared} {vs : List Value} {ns : List Int}
    (KX : K.In t.heap) (nol : ∀ p o, K.lookup p = some o → o.cls ≠ .type "list") (hns : t.heap.Ns mainGlobals mg) (hb : t.heap.Ns builtinsNs mb) (hbb : ∀ x : Str, x ≠ "__name__" → mb x = bootBuiltins x) (hlim : t.heap.NoLimit) (hg : t.gens = #[])
    (ha : t.heap.get? a = some { cls := .type "list", data := .seq vs.toArray }) (hi : IntsAre vs ns) (hl : ns.length ≤ sizeLine) (hr : Room k callerA)
    (hF : ∀ base : Heap, K.In base → base.Ns mainGlobals mg → FnG P w K mg base k fa fd [x] F) (hbind : ∀ (s : Shared) (u : Value), BindsTo s fd ⟨[u], []⟩ [(x, u)]) (hT : ∃ st', F [.ref 0] [.rol (ns.map D.int)] = some (.bl true, st')) :
    codeAny (model P w) callerA (.call (.ref fa) ⟨[.ref a], []⟩) (fun r s' => r = .ok (.ret (.bool true)) ∧ OldK t.heap s'.heap ∧ s'.os = t.os ∧ AllBare s'.gens) t := by
  have rv := vals_ints hi
  obtain ⟨st', hT⟩ := hT
  -- the script is known to the object; nothing else is tracked
  let Hs : Hp := fun b => if b = a then some (.frz { cls := .type "list", data := .seq vs.toArray } (.lst (ns.map V.int))) else none
  have hsa : Hs a = some (.frz { cls := .type "list", data := .seq vs.toArray } (.lst (ns.map V.int))) := if_pos rfl
  have hsn : ∀ {b}, b ≠ a → Hs b = none := fun hb => if_neg hb
  have only : ∀ {b u}, Hs b = some u → b = a ∧ u = .frz { cls := .type "list", data := .seq vs.toArray } (.lst (ns.map V.int)) := fun {b u} e => by
    by_cases hb : b = a
    · subst hb
      rw [hsa] at e
      exact ⟨rfl, (Option.some.inj e).symm⟩
    · rw [hsn hb] at e
      cases e
  have hok : HOk P w Hs t.heap := fun b u e => by
    obtain ⟨rfl, rfl⟩ := only e
    exact ⟨ha, by rw [List.length_map]; exact hl, vs, _, rv, ha⟩
  have base_of : ∀ {b : Addr} {o : Obj}, t.heap.get? b = some o → Hs b = none → (hidT t.heap Hs).get? b = some o := fun e n => hidT_get e n
  have noA : ∀ {b : Addr} {o : Obj} {es : Array DictEntry} {ep : Nat}, t.heap.get? b = some o → o.data = .dict es ep → Hs b = none := fun {b o es ep} e d => by
    refine hsn fun q => ?_
    subst q
    rw [ha] at e
    cases e
    have d' : Data.seq vs.toArray _ = Data.dict es ep := d
    cases d'
  have nsK : ∀ {b : Addr} {m : Str → Option Value}, t.heap.Ns b m → (hidT t.heap Hs).Ns b m := fun {b m} ⟨o, es, ep, e, d, r⟩ => ⟨o, es, ep, base_of e (noA e d), d, r⟩
  have inB : K.In (hidT t.heap Hs) := fun b o e => base_of (KX b o e) (hsn fun q => by
    subst q
    have z := KX b o e
    rw [ha] at z
    cases z
    exact nol b _ e rfl)
  have modB : Mod K mg (hidT t.heap Hs) := ⟨inB, nsK hns, ⟨mb, nsK hb, hbb⟩, let ⟨mc, h1, h2⟩ := hlim; ⟨mc, nsK h1, h2⟩⟩
  have e0 : Env0 P w K mg (hidT t.heap Hs) callerA [] t Hs := ⟨rfl, modB, fun b o e => of_hidT e, Nat.le_of_eq (hidT_size _ _), trivial, fun b hb => absurd (show b ∈ ([] : List Addr) from hb) (by simp), hok, .of_eq hg⟩
  have S0 : SimO [a] Hs [.rol (ns.map D.int)] := by
    refine ⟨rfl, by simp, fun i p o e1 e2 => ?_⟩
    cases i with
    | zero =>
      simp at e1 e2
      subst e1
      subst e2
      exact ⟨_, .inr ⟨_, hsa⟩, ints_VRs ns⟩
    | succ i => simp at e1
  refine codeAny_mono ((hF _ inB (nsK hns)).run callerA [] t Hs ⟨[.ref a], []⟩ [.ref a] [.ref a] [a] [.ref 0] _ _ _ (fun v _ => v = .bl true) hr rfl e0 (hbind t (.ref a)) (.cons rfl .nil) rfl hT S0 ⟨.ref a, [], rfl, ⟨a, rfl, rfl⟩, rfl⟩ fun v m' H' _ _ q => q) fun r s' h => ?_
  cases r with
  | error e => exact h.elim
  | ok fl =>
    cases fl with
    | next => exact False.elim h
    | brk => exact False.elim h
    | cont => exact False.elim h
    | ret u =>
      obtain ⟨v, H', os, bare, un, hok', r', q⟩ := h
      have q' : v = .bl true := q
      subst q'
      obtain rfl : u = Value.bool true := r'
      refine ⟨rfl, OldK.of_keep fun b o e => ?_, os, bare⟩
      by_cases hb : b = a
      · subst hb
        have z2 := un.frzs b _ _ hsa
        obtain ⟨e2, _⟩ := hok' b _ z2
        rw [ha] at e
        cases e
        exact e2
      · exact un.keep b o e (hsn hb) (by intro z; exact absurd (show b ∈ ([] : List Addr) from z) (by simp)) (by simp)
theorem walkG {l : PySem.W.OpenLaw} {n k : Nat} {q : Program} {loose : List Str} {XP : (Str → Option Value) → Heap → Prop} {YP : World → Heap → Prop} {d : DefRec} {x : Str}
    (hn : l.most = some n) (hn2 : n ≤ sizeLine) (hdf : d.params.defaults = []) (hr : Room k callerA)
    (F : ∀ (w : World) (mg : Str → Option Value) (fa : Addr) (h : Heap), YP w h → h.Ns mainGlobals mg → mg d.name = some (.ref fa) →
      ∃ (K : PySem.W.Frag) (fd : FuncData) (G : FF), K.In h ∧ (∀ p o, K.lookup p = some o → o.cls ≠ .type "list") ∧ (∀ (s : Shared) (u : Value), BindsTo s fd ⟨[u], []⟩ [(x, u)]) ∧
        (∀ ns : List Int, ns.length ≤ n → (∀ k ∈ ns, Builtin.Int.intBits k ≤ 1048576) → ∃ st', G [.ref 0] [.rol (ns.map D.int)] = some (.bl true, st')) ∧
        ∀ base : Heap, K.In base → base.Ns mainGlobals mg → FnG l.prog w K mg base k fa fd [x] G) :
    PySem.W.WalkO q loose XP YP l.row.toRowW d [] (fun f vs => PySem.call f vs) := by
  refine Att.attach_callB hn hdf fun w s₀ s₁ mg mb fa o pm cd doc a vs ns G Y ho hd hcd hmg hobj hints hlen hbits hg => ?_
  obtain ⟨K, fd, FF, KX, nol, hb, hsp, hF⟩ := F w mg fa _ Y G.T.g hmg
  exact lawG KX nol G.T.g G.T.b G.T.builtins G.T.nolimit hg hobj hints (Nat.le_trans hlen hn2) hr hF hb (hsp ns hlen hbits)

/-! ## the head's hook: besides, that no list is among the written objects -/
def notL (o : Obj) : Bool := match o.cls with
  | .type c => !decide (c = "list")
  | _ => true
def obsN (n : Nat) (fa : List He.Fa) (fn : List He.DefD) (g : Addr → Option Obj) : He.AlD × Bool := (He.obsD fa fn (He.frG g (He.asD g n)), (He.frG g (He.asD g n)).all fun p => notL p.2)
def SaysN (fa : List He.Fa) (fn : List He.DefD) (h : Heap) : Prop := ∃ K : PySem.W.Frag, K.In h ∧ He.SaysD fa fn K ∧ ∀ p o, K.lookup p = some o → o.cls ≠ .type "list"
theorem lookup_all {f : Addr × Obj → Bool} : ∀ {K : PySem.W.Frag}, K.all f = true → ∀ {p : Addr} {o : Obj}, K.lookup p = some o → f (p, o) = true
  | [], _, p, o, e => by cases e
  | (b, u) :: K, h, p, o, e => by
    rw [List.all_cons, Bool.and_eq_true] at h
    rw [List.lookup_cons] at e
    split at e
    · rename_i hb
      have hb' : p = b := eq_of_beq hb
      cases e
      rw [hb']
      exact h.1
    · exact lookup_all h.2 e
def hookN (n : Nat) (fa : List He.Fa) (fn : List He.DefD) : PySem.W.Hook where
  α := He.AlD × Bool
  obs := fun s => obsN n fa fn s.heap.get?
  val := fun _ => (He.valD fn, true)
  says := fun _ h => SaysN fa fn h
  of := fun w s e => ⟨_, He.frG_in, congrArg (fun z : He.AlD × Bool => z.1) e, fun p o ho z => by
    have h2 : (He.frG s.heap.get? (He.asD s.heap.get? n)).all (fun p => notL p.2) = true := congrArg (fun z : He.AlD × Bool => z.2) e
    have := lookup_all h2 ho
    unfold notL at this
    simp only [z] at this
    simp at this⟩
  keeps := fun _ _ _ ⟨K, hK, c, nl⟩ k => ⟨K, PySem.W.Frag.In.keeps hK k, c, nl⟩
theorem obsN_eq {n : Nat} {fa : List He.Fa} {fn : List He.DefD} {g : Addr → Option Obj} {s : Shared} (h : ∀ a, g a = s.heap.get? a) : obsN n fa fn g = (hookN n fa fn).obs s := by
  have e : g = s.heap.get? := funext h
  rw [e] <;> rfl
end FL

set_option Elab.async false
set_option linter.all false
set_option maxRecDepth 100000
set_option maxHeartbeats 0
set_option autoImplicit false
namespace FH
open PySem PySem.Spec PyProof.Rows L2
def top (i : Nat) : Stmt := PySem.Challenge.pw_everyonegetsthere_k18_whole_waits_at_gat.main.body.getD i (.Pass ⟨0, 0, 0, 0⟩)
def dD (x : Str) (i : Nat) : He.DefD := ⟨(x, none), x, x, defArgs (top i), defBody (top i), defScope (top i), [], []⟩
def fn : List He.DefD := [dD "is_integer" 12, dD "is_between" 13, dD "are_between" 14, dD "is_tuple_of" 15, dD "is_ascending" 16, dD "is_name_of" 17, dD "are_names" 18, dD "is_pair_of_names" 19, dD "is_floor_of" 23, dD "check_floor" 24, dD "check_cell" 25, dD "check_cells" 26, dD "is_lot_of" 27, dD "goes_from" 28, dD "goes_into" 29, dD "out_of" 30, dD "fars_of" 31, dD "lot_from" 32, dD "is_shut_lot" 33, dD "is_gate" 43, dD "are_gates_of" 44, dD "check_gates" 45, dD "check_ends" 46, dD "check_tick" 47, dD "known_gates" 48, dD "is_open" 49, dD "takes_of" 50, dD "set_off" 51, dD "levels_by" 52, dD "trip_by" 53, dD "gates_told" 54, dD "are_levels" 55, dD "trip_end" 56, dD "trip_told" 57, dD "shows_gates" 58, dD "gate_table" 59, dD "phases_told" 60, dD "_law_pot" 62, dD "_law_take" 63, dD "_law_cells" 64, dD "_law_phases" 65, dD "_law_gaps" 66, dD "_law_goes" 67, dD "_law_trip" 68, dD "_law_right" 69, dD "law" 70]
def fa0 : List He.Fa := [.glo "is_integer", .glo "is_between", .glo "are_between", .glo "is_tuple_of", .glo "is_ascending", .glo "is_name_of", .glo "are_names", .glo "is_pair_of_names", .glo "is_floor_of", .glo "check_floor", .glo "check_cell", .glo "check_cells", .glo "is_lot_of", .glo "goes_from", .glo "goes_into", .glo "out_of", .glo "fars_of", .glo "lot_from", .glo "is_shut_lot", .glo "is_gate", .glo "are_gates_of", .glo "check_gates", .glo "check_ends", .glo "check_tick", .glo "known_gates", .glo "is_open", .glo "takes_of", .glo "set_off", .glo "levels_by", .glo "trip_by"]
def fa1 : List He.Fa := [.glo "gates_told", .glo "are_levels", .glo "trip_end", .glo "trip_told", .glo "shows_gates", .glo "gate_table", .glo "phases_told", .glo "_law_pot", .glo "_law_take", .glo "_law_cells", .glo "_law_phases", .glo "_law_gaps", .glo "_law_goes", .glo "_law_trip", .glo "_law_right", .glo "law", .free "isinstance", .free "len", .free "all", .free "any", .free "sum", .free "dict", .free "sorted", .free "tuple", .free "list", .free "range", .free "zip", .free "enumerate", .free "max", .free "min"]
def fa2 : List He.Fa := [.free "repr", .free "str", .free "int", .free "abs", .free "bool", .str "LETTERS" "abcdefghijklmnopqrstuvwxyz", .str "FIGURES" "0123456789", .int "MOST_NAME" 6, .int "MOST_CELLS" 24, .int "MOST_WAYS" 120, .str "COMES" "comes", .str "NEVER" "never", .int "MOST_ROUND" 12, .int "MOST_TAKES" 9, .int "MOST_TICK" 9999, .int "MOST_LEVEL" 100000, .int "THREE" 3, .int "FOUR" 4]
def fa : List He.Fa := fa0 ++ (fa1 ++ fa2)
def lo0 : List Str := ["FloorError", "BadCell", "BadFloor", "BadGates", "BadTick", "BadWay", "NoWay", "LETTERS", "FIGURES", "MOST_NAME", "is_integer", "is_between", "are_between", "is_tuple_of", "is_ascending", "is_name_of", "are_names", "is_pair_of_names", "MOST_CELLS", "MOST_WAYS", "is_floor_of", "check_floor", "check_cell", "check_cells", "is_lot_of", "goes_from", "goes_into", "out_of", "fars_of", "lot_from"]
def lo1 : List Str := ["is_shut_lot", "COMES", "NEVER", "MOST_ROUND", "MOST_TAKES", "MOST_TICK", "MOST_LEVEL", "THREE", "FOUR", "is_gate", "are_gates_of", "check_gates", "check_ends", "check_tick", "known_gates", "is_open", "takes_of", "set_off", "levels_by", "trip_by", "gates_told", "are_levels", "trip_end", "trip_told", "shows_gates", "gate_table", "phases_told", "_law_pot", "_law_take", "_law_cells"]
def lo2 : List Str := ["_law_phases", "_law_gaps", "_law_goes", "_law_trip", "_law_right"]
def lo : List Str := lo0 ++ (lo1 ++ (lo2))
abbrev R : PySem.W.OpenRow := PySem.W.OpenLaw.row PySem.Challenge.rw_everyonegetsthere_k18_whole_waits_at_gat
abbrev fi_isinstance : Nat := 46
abbrev fi_len : Nat := 47
abbrev fi_all : Nat := 48
abbrev fi_any : Nat := 49
abbrev fi_sum : Nat := 50
abbrev fi_dict : Nat := 51
abbrev fi_sorted : Nat := 52
abbrev fi_tuple : Nat := 53
abbrev fi_list : Nat := 54
abbrev fi_range : Nat := 55
abbrev fi_zip : Nat := 56
abbrev fi_enumerate : Nat := 57
abbrev fi_max : Nat := 58
abbrev fi_min : Nat := 59
abbrev fi_repr : Nat := 60
abbrev fi_str : Nat := 61
abbrev fi_int : Nat := 62
abbrev fi_abs : Nat := 63
abbrev fi_bool : Nat := 64
abbrev fi_LETTERS : Nat := 65
abbrev fi_FIGURES : Nat := 66
abbrev fi_MOST_NAME : Nat := 67
abbrev fi_MOST_CELLS : Nat := 68
abbrev fi_MOST_WAYS : Nat := 69
abbrev fi_COMES : Nat := 70
abbrev fi_NEVER : Nat := 71
abbrev fi_MOST_ROUND : Nat := 72
abbrev fi_MOST_TAKES : Nat := 73
abbrev fi_MOST_TICK : Nat := 74
abbrev fi_MOST_LEVEL : Nat := 75
abbrev fi_THREE : Nat := 76
abbrev fi_FOUR : Nat := 77
abbrev hk : PySem.W.Hook := FL.hookN 4 fa fn
def ob (s : PySem.W.SharedT) : He.AlD × Bool := FL.obsN 4 fa fn (HandSHeadRun.getT s)
theorem ob_eq (s : PySem.W.SharedT) : ob s = hk.obs s.abs := FL.obsN_eq (HandSHeadRun.getT_eq s)
theorem run (w : World) : HandSHeadRun.RunEq R (PySem.W.view R.prog [70]) hk ob 6000 lo w := by
  intro os
  kernel_rfl
end FH

set_option Elab.async false
set_option linter.all false
set_option maxRecDepth 100000
set_option autoImplicit false
namespace FL
open PySem PySem.Spec PyProof.Rows L2
/-- what the head tells of the module -/
def Fx (K : PySem.W.Frag) (mg : Str → Option Value) : Prop := ∃ h : Heap, K.In h ∧ h.Ns mainGlobals mg ∧ He.SaysD FH.fa FH.fn K
section
variable {K : PySem.W.Frag} {mg : Str → Option Value}
theorem Fx.free (fx : Fx K mg) (i : Nat) {x : Str} {f : He.Fa} (e : FH.fa[i]? = some f) (hf : f = .free x := by rfl) : mg x = none := by
  obtain ⟨h, X, G, c⟩ := fx
  subst hf
  exact He.free_ok X G (c.fact i e)
theorem Fx.glo (fx : Fx K mg) (i : Nat) {x : Str} (e : FH.fa[i]? = some (.glo x)) : mg x = some (.ref (He.ga K x)) := by
  obtain ⟨h, X, G, c⟩ := fx
  exact He.glo_ok X G (c.fact i e)
theorem Fx.int (fx : Fx K mg) (i : Nat) {x : Str} {n : Int} (e : FH.fa[i]? = some (.int x n)) : ∃ t, mg x = some (.int n t) := by
  obtain ⟨h, X, G, c⟩ := fx
  exact He.int_ok X G (c.fact i e)
theorem Fx.str (fx : Fx K mg) (i : Nat) {x z : Str} (e : FH.fa[i]? = some (.str x z)) : ∃ t, mg x = some (.str z t) := by
  obtain ⟨h, X, G, c⟩ := fx
  exact He.str_ok X G (c.fact i e)
/-- a def of the module keeps its function -/
structure Ok (K : PySem.W.Frag) (mg : Str → Option Value) (x : Str) (ps : List Str) (k : Nat) (F : FF) : Prop where
  glo : mg x = some (.ref (He.ga K x))
  keep : PySem.W.keepIn K (.ref (He.ga K x)) = true
  fn : ∃ fd, Binds K fd ps [] ∧ (∀ (s : Shared) (us : List Value), us.length = ps.length → BindsTo s fd ⟨us, []⟩ (ps.zip us)) ∧ ∀ (P : Program) (w : World) (base : Heap), FnG P w K mg base k (He.ga K x) fd ps F
theorem okD {N ps : List Str} {k : Nat} {B : FS} (fx : Fx K mg) (j i : Nat) {x : Str} (hd : FH.fn[j]? = some (FH.dD x i)) (hg : FH.fa[j]? = some (.glo x)) (S : FnScope N ps (defScope (FH.top i)))
    (hb : ∀ (kV doc pm : Value) (an : Option Addr) (cdv ct : Value) (us : List Value), us.length = ps.length → bindArgs (PySem.W.fnOf x x (defArgs (FH.top i)) (defBody (FH.top i)) (defScope (FH.top i)) .none kV doc pm an cdv ct) ⟨us, []⟩ = pure (ps.zip us))
    (hB : ∀ (P : Program) (w : World) (base : Heap) (cdv : Value) (A : Around) (outer : List Env) (s : Shared) (H : Hp), Room k (A.deeper (envOfC x (defScope (FH.top i)) s.heap.objs.size (He.ga K x) cdv)) → A.guards = some [] →
      SSs (cxOf CX0 P w K mg base N x (defScope (FH.top i)) (He.ga K x) cdv A outer s H E0).nox (defBody (FH.top i)) B) : Ok K mg x ps (k + 1) (run N.length ps.length B) := by
  have g := fx.glo j hg
  obtain ⟨h, X, G, c⟩ := fx
  obtain ⟨fd, Fd⟩ := c.def_ j hd
  exact ⟨g, Fd.kp, fd, Fd.bindsN hb, fun s us hl => Fd.bindsA hb s us hl, fun P w base => fnGD Fd S fun cdv A outer s H hr hgu => hB P w base cdv A outer s H hr hgu⟩
theorem se_call1 {X : Cx} {x : Str} {ps : List Str} {k k' : Nat} {F : FF} {p pos : Pos} {e : Expr} {es : List Expr} {g : FA} (h : Ok X.K X.mg x ps k F) (hr : Room k' X.A) (hk : k ≤ k') (hgu : X.A.guards = some []) (hg : Gl X x)
    (hn : ∀ {ds st r}, F ds st = some r → ds.length = ps.length) (ha : SA X (e :: es) g) (hdb : (x == ("__debug__" : Str)) = false := by decide) (he : starEach (e :: es) X.env = (false, eval e X.env) :: starEach es X.env := by rfl) (hpl : (backTo pos (starEach es X.env)).any (·.1) = false := by rfl) :
    SE X (.Call (.Name x p) (e :: es) [] pos) (fCall F g) := by
  obtain ⟨fd, hb, _, hF⟩ := h.fn
  exact se_call ((hF X.prog X.w X.base).mono hk) hr hgu hg h.glo h.keep hb (fun _ _ _ => trivial) (fun ds st r => hn) ha hdb he hpl
end
end FL

set_option Elab.async false
set_option linter.all false
set_option maxRecDepth 100000
set_option maxHeartbeats 0
set_option autoImplicit false
namespace FL
open PySem PySem.Spec PyProof.Rows L2

def N_is_integer : List Str := ["value"]
def B_is_integer : FS := (fRt (fAndV (fCB isiD (fAc (fvar 0) (fAc (fC (.ty "int")) fA0))) (fNotV (fCB isiD (fAc (fvar 0) (fAc (fC (.ty "bool")) fA0))))))
def F_is_integer : FF := run 1 1 B_is_integer
theorem ok_is_integer {K : PySem.W.Frag} {mg : Str → Option Value} (fx : Fx K mg) : Ok K mg "is_integer" ["value"] 1 F_is_integer := by
  have b_bool := fx.free FH.fi_bool (f := .free "bool") rfl
  have b_int := fx.free FH.fi_int (f := .free "int") rfl
  have b_isinstance := fx.free FH.fi_isinstance (f := .free "isinstance") rfl
  refine okD (N := N_is_integer) (ps := ["value"]) (B := B_is_integer) fx 0 12 (x := "is_integer") rfl rfl ⟨rfl, rfl, rfl, by decide +kernel, rfl, by decide +kernel, by decide +kernel⟩ (fun _ _ _ _ _ _ us hl => match us, hl with | [_], _ => rfl) fun P w base cdv A outer s H hr hgu => ?_
  have nd : N_is_integer.Nodup := by decide +kernel
  have hu := hr.units
  exact (sss_one (ss_ret (se_and (se_callB call_isi (oc_isi _) rfl b_isinstance (by decide +kernel) (sa_cons (se_var 0) (sa_cons (se_bltn rfl b_int (by decide +kernel)) sa_nil))) (se_one (se_not (se_callB call_isi (oc_isi _) rfl b_isinstance (by decide +kernel) (sa_cons (se_var 0) (sa_cons (se_bltn rfl b_bool (by decide +kernel)) sa_nil))))))))
def N_is_between : List Str := ["value", "low", "high"]
def B_is_between : FS := (fRt (fAndV (fCall F_is_integer (fAc (fvar 0) fA0)) (fChain leD leD (fvar 1) (fvar 0) (fvar 2))))
def F_is_between : FF := run 3 3 B_is_between
theorem ok_is_between {K : PySem.W.Frag} {mg : Str → Option Value} (fx : Fx K mg) : Ok K mg "is_between" ["value", "low", "high"] 2 F_is_between := by
  refine okD (N := N_is_between) (ps := ["value", "low", "high"]) (B := B_is_between) fx 1 13 (x := "is_between") rfl rfl ⟨rfl, rfl, rfl, by decide +kernel, rfl, by decide +kernel, by decide +kernel⟩ (fun _ _ _ _ _ _ us hl => match us, hl with | [_, _, _], _ => rfl) fun P w base cdv A outer s H hr hgu => ?_
  have nd : N_is_between.Nodup := by decide +kernel
  have hu := hr.units
  exact (sss_one (ss_ret (se_and (se_call1 (ok_is_integer fx) hr (by decide) hgu rfl run_len (sa_cons (se_var 0) sa_nil)) (se_one (se_chain op_le o2_B0 op_le o2_B0 (se_var 1) (se_var 0) (se_var 2))))))
def N_are_between : List Str := ["value", "low", "high", "one"]
def B_are_between : FS := (fRt (fAndV (fCB isiD (fAc (fvar 0) (fAc (fC (.ty "tuple")) fA0))) (fCB allD (fAc (fLc (fSeqI (fvar 0)) (fNm 3) fYes (fCall F_is_between (fAc (fvar 3) (fAc (fvar 1) (fAc (fvar 2) fA0)))) [3]) fA0))))
def F_are_between : FF := run 4 3 B_are_between
theorem ok_are_between {K : PySem.W.Frag} {mg : Str → Option Value} (fx : Fx K mg) : Ok K mg "are_between" ["value", "low", "high"] 3 F_are_between := by
  have b_all := fx.free FH.fi_all (f := .free "all") rfl
  have b_isinstance := fx.free FH.fi_isinstance (f := .free "isinstance") rfl
  have b_tuple := fx.free FH.fi_tuple (f := .free "tuple") rfl
  refine okD (N := N_are_between) (ps := ["value", "low", "high"]) (B := B_are_between) fx 2 14 (x := "are_between") rfl rfl ⟨rfl, rfl, rfl, by decide +kernel, rfl, by decide +kernel, by decide +kernel⟩ (fun _ _ _ _ _ _ us hl => match us, hl with | [_, _, _], _ => rfl) fun P w base cdv A outer s H hr hgu => ?_
  have nd : N_are_between.Nodup := by decide +kernel
  have hu := hr.units
  exact (sss_one (ss_ret (se_and (se_callB call_isi (oc_isi _) rfl b_isinstance (by decide +kernel) (sa_cons (se_var 0) (sa_cons (se_bltn rfl b_tuple (by decide +kernel)) sa_nil))) (se_one (se_callB (cr_all rfl) (oc_all _) rfl b_all (by decide +kernel) (sa_cons (se_lc (ow := [("one", 3)]) rfl nd (si_seq (se_var 0)) (blkOk_by (by kernel_rfl)) (SB.no (fun _ _ _ _ _ => (sg_name nd rfl (by first | exact .inl rfl | exact .inr rfl))) (fun _ _ _ _ _ => (se_call1 (ok_is_between fx) hr (by decide) hgu rfl run_len (sa_cons (se_var 3) (sa_cons (se_var 1) (sa_cons (se_var 2) sa_nil)))))) (by decide)) sa_nil))))))
def N_is_tuple_of : List Str := ["value", "many"]
def B_is_tuple_of : FS := (fRt (fAndV (fCB isiD (fAc (fvar 0) (fAc (fC (.ty "tuple")) fA0))) (fE2 eqD (fCB lenD (fAc (fvar 0) fA0)) (fvar 1))))
def F_is_tuple_of : FF := run 2 2 B_is_tuple_of
theorem ok_is_tuple_of {K : PySem.W.Frag} {mg : Str → Option Value} (fx : Fx K mg) : Ok K mg "is_tuple_of" ["value", "many"] 1 F_is_tuple_of := by
  have b_isinstance := fx.free FH.fi_isinstance (f := .free "isinstance") rfl
  have b_len := fx.free FH.fi_len (f := .free "len") rfl
  have b_tuple := fx.free FH.fi_tuple (f := .free "tuple") rfl
  refine okD (N := N_is_tuple_of) (ps := ["value", "many"]) (B := B_is_tuple_of) fx 3 15 (x := "is_tuple_of") rfl rfl ⟨rfl, rfl, rfl, by decide +kernel, rfl, by decide +kernel, by decide +kernel⟩ (fun _ _ _ _ _ _ us hl => match us, hl with | [_, _], _ => rfl) fun P w base cdv A outer s H hr hgu => ?_
  have nd : N_is_tuple_of.Nodup := by decide +kernel
  have hu := hr.units
  exact (sss_one (ss_ret (se_and (se_callB call_isi (oc_isi _) rfl b_isinstance (by decide +kernel) (sa_cons (se_var 0) (sa_cons (se_bltn rfl b_tuple (by decide +kernel)) sa_nil))) (se_one (se_cmp (op_eqX hu) (o2_data _ _) (se_callB call_lenX (oc_len _) rfl b_len (by decide +kernel) (sa_cons (se_var 0) sa_nil)) (se_var 1) (nomark _))))))
def N_is_ascending : List Str := ["value", "one", "other"]
def B_is_ascending : FS := (fRt (fCB allD (fAc (fLc (fZip (fAc (fvar 0) (fAc (fSl (fvar 0) (fO1 (fC (.int 1))) fO0) fA0))) (fGt 2 (fGc (fNm 1) (fGc (fNm 2) fG0))) fYes (fE2 ltD (fvar 1) (fvar 2)) [1, 2]) fA0)))
def F_is_ascending : FF := run 3 1 B_is_ascending
theorem ok_is_ascending {K : PySem.W.Frag} {mg : Str → Option Value} (fx : Fx K mg) : Ok K mg "is_ascending" ["value"] 1 F_is_ascending := by
  have b_all := fx.free FH.fi_all (f := .free "all") rfl
  have b_zip := fx.free FH.fi_zip (f := .free "zip") rfl
  refine okD (N := N_is_ascending) (ps := ["value"]) (B := B_is_ascending) fx 4 16 (x := "is_ascending") rfl rfl ⟨rfl, rfl, rfl, by decide +kernel, rfl, by decide +kernel, by decide +kernel⟩ (fun _ _ _ _ _ _ us hl => match us, hl with | [_], _ => rfl) fun P w base cdv A outer s H hr hgu => ?_
  have nd : N_is_ascending.Nodup := by decide +kernel
  have hu := hr.units
  exact (sss_one (ss_ret (se_callB (cr_all rfl) (oc_all _) rfl b_all (by decide +kernel) (sa_cons (se_lc (ow := [("one", 1), ("other", 2)]) rfl nd (si_zip rfl b_zip (sa_cons (se_var 0) (sa_cons (se_sl (se_var 0) (so_some se_int) so_none) sa_nil))) (blkOk_by (by kernel_rfl)) (SB.no (fun _ _ _ _ _ => (sg_tup rfl (sgs_cons (sg_name nd rfl (by first | exact .inl rfl | exact .inr rfl)) (sgs_cons (sg_name nd rfl (by first | exact .inl rfl | exact .inr rfl)) sgs_nil)))) (fun _ _ _ _ _ => (se_cmp (op_ltX hu) (o2_lt _) (se_var 1) (se_var 2) (nomark _)))) (by decide)) sa_nil))))
def N_is_name_of : List Str := ["value", "sign"]
def B_is_name_of : FS := (fSq (fIfS (fOr (fNot (fTb (fCB isiD (fAc (fvar 0) (fAc (fC (.ty "str")) fA0))))) (fOr (fNot (fTb (fChain leD leD (fC (.int 1)) (fCB lenD (fAc (fvar 0) fA0)) (fC (.int 6))))) (fTb (fE2 notInD (fE2 ixD (fvar 0) (fC (.int 0))) (fC (.str "abcdefghijklmnopqrstuvwxyz")))))) (fRt (fC (.bl false))) fNx)
    (fRt (fCB allD (fAc (fLc (fSeqI (fvar 0)) (fNm 1) fYes (fE2 inD (fvar 1) (fE2 addD (fC (.str "abcdefghijklmnopqrstuvwxyz")) (fC (.str "0123456789")))) [1]) fA0))))
def F_is_name_of : FF := run 2 1 B_is_name_of
theorem ok_is_name_of {K : PySem.W.Frag} {mg : Str → Option Value} (fx : Fx K mg) : Ok K mg "is_name_of" ["value"] 1 F_is_name_of := by
  have b_all := fx.free FH.fi_all (f := .free "all") rfl
  have b_isinstance := fx.free FH.fi_isinstance (f := .free "isinstance") rfl
  have b_len := fx.free FH.fi_len (f := .free "len") rfl
  have b_str := fx.free FH.fi_str (f := .free "str") rfl
  obtain ⟨t_FIGURES, c_FIGURES⟩ := fx.str FH.fi_FIGURES (x := "FIGURES") (z := "0123456789") rfl
  obtain ⟨t_LETTERS, c_LETTERS⟩ := fx.str FH.fi_LETTERS (x := "LETTERS") (z := "abcdefghijklmnopqrstuvwxyz") rfl
  obtain ⟨t_MOST_NAME, c_MOST_NAME⟩ := fx.int FH.fi_MOST_NAME (x := "MOST_NAME") (n := 6) rfl
  refine okD (N := N_is_name_of) (ps := ["value"]) (B := B_is_name_of) fx 5 17 (x := "is_name_of") rfl rfl ⟨rfl, rfl, rfl, by decide +kernel, rfl, by decide +kernel, by decide +kernel⟩ (fun _ _ _ _ _ _ us hl => match us, hl with | [_], _ => rfl) fun P w base cdv A outer s H hr hgu => ?_
  have nd : N_is_name_of.Nodup := by decide +kernel
  have hu := hr.units
  exact (sss_cons (ss_if (SW.st (sw_or (st_not (st_val (se_callB call_isi (oc_isi _) rfl b_isinstance (by decide +kernel) (sa_cons (se_var 0) (sa_cons (se_bltn rfl b_str (by decide +kernel)) sa_nil))))) (sw_or (st_not (st_chain op_le o2_B0 op_le o2_B0 se_int (se_callB call_lenX (oc_len _) rfl b_len (by decide +kernel) (sa_cons (se_var 0) sa_nil)) (se_globI rfl c_MOST_NAME))) (sw_or1 (st_cmp (op_notInX hu) (o2_inS _ true) (se_ixD hu (se_var 0) se_int) (se_globS rfl c_LETTERS) (by rfl)))))) (sss_one (ss_ret se_bl)) sss_nil)
    (sss_one (ss_ret (se_callB (cr_all rfl) (oc_all _) rfl b_all (by decide +kernel) (sa_cons (se_lc (ow := [("sign", 1)]) rfl nd (si_seq (se_var 0)) (blkOk_by (by kernel_rfl)) (SB.no (fun _ _ _ _ _ => (sg_name nd rfl (by first | exact .inl rfl | exact .inr rfl))) (fun _ _ _ _ _ => (se_cmp (op_inX hu) (o2_inS _ false) (se_var 1) (se_add (se_globS rfl c_LETTERS) (se_globS rfl c_FIGURES)) (by rfl)))) (by decide)) sa_nil)))))
def N_are_names : List Str := ["value", "one"]
def B_are_names : FS := (fRt (fAndV (fCB isiD (fAc (fvar 0) (fAc (fC (.ty "tuple")) fA0))) (fCB allD (fAc (fLc (fSeqI (fvar 0)) (fNm 1) fYes (fCall F_is_name_of (fAc (fvar 1) fA0)) [1]) fA0))))
def F_are_names : FF := run 2 1 B_are_names
theorem ok_are_names {K : PySem.W.Frag} {mg : Str → Option Value} (fx : Fx K mg) : Ok K mg "are_names" ["value"] 2 F_are_names := by
  have b_all := fx.free FH.fi_all (f := .free "all") rfl
  have b_isinstance := fx.free FH.fi_isinstance (f := .free "isinstance") rfl
  have b_tuple := fx.free FH.fi_tuple (f := .free "tuple") rfl
  refine okD (N := N_are_names) (ps := ["value"]) (B := B_are_names) fx 6 18 (x := "are_names") rfl rfl ⟨rfl, rfl, rfl, by decide +kernel, rfl, by decide +kernel, by decide +kernel⟩ (fun _ _ _ _ _ _ us hl => match us, hl with | [_], _ => rfl) fun P w base cdv A outer s H hr hgu => ?_
  have nd : N_are_names.Nodup := by decide +kernel
  have hu := hr.units
  exact (sss_one (ss_ret (se_and (se_callB call_isi (oc_isi _) rfl b_isinstance (by decide +kernel) (sa_cons (se_var 0) (sa_cons (se_bltn rfl b_tuple (by decide +kernel)) sa_nil))) (se_one (se_callB (cr_all rfl) (oc_all _) rfl b_all (by decide +kernel) (sa_cons (se_lc (ow := [("one", 1)]) rfl nd (si_seq (se_var 0)) (blkOk_by (by kernel_rfl)) (SB.no (fun _ _ _ _ _ => (sg_name nd rfl (by first | exact .inl rfl | exact .inr rfl))) (fun _ _ _ _ _ => (se_call1 (ok_is_name_of fx) hr (by decide) hgu rfl run_len (sa_cons (se_var 1) sa_nil)))) (by decide)) sa_nil))))))
def N_is_pair_of_names : List Str := ["value"]
def B_is_pair_of_names : FS := (fRt (fAndV (fCall F_are_names (fAc (fvar 0) fA0)) (fE2 eqD (fCB lenD (fAc (fvar 0) fA0)) (fC (.int 2)))))
def F_is_pair_of_names : FF := run 1 1 B_is_pair_of_names
theorem ok_is_pair_of_names {K : PySem.W.Frag} {mg : Str → Option Value} (fx : Fx K mg) : Ok K mg "is_pair_of_names" ["value"] 3 F_is_pair_of_names := by
  have b_len := fx.free FH.fi_len (f := .free "len") rfl
  refine okD (N := N_is_pair_of_names) (ps := ["value"]) (B := B_is_pair_of_names) fx 7 19 (x := "is_pair_of_names") rfl rfl ⟨rfl, rfl, rfl, by decide +kernel, rfl, by decide +kernel, by decide +kernel⟩ (fun _ _ _ _ _ _ us hl => match us, hl with | [_], _ => rfl) fun P w base cdv A outer s H hr hgu => ?_
  have nd : N_is_pair_of_names.Nodup := by decide +kernel
  have hu := hr.units
  exact (sss_one (ss_ret (se_and (se_call1 (ok_are_names fx) hr (by decide) hgu rfl run_len (sa_cons (se_var 0) sa_nil)) (se_one (se_cmp (op_eqX hu) (o2_data _ _) (se_callB call_lenX (oc_len _) rfl b_len (by decide +kernel) (sa_cons (se_var 0) sa_nil)) se_int (nomark _))))))
def N_is_floor_of : List Str := ["value", "cells", "ways", "one", "other", "way"]
def B_is_floor_of : FS := (fSq (fIfS (fOr (fNot (fTb (fCall F_is_tuple_of (fAc (fvar 0) (fAc (fC (.int 2)) fA0))))) (fOr (fNot (fTb (fCall F_are_names (fAc (fE2 ixD (fvar 0) (fC (.int 0))) fA0)))) (fNot (fTb (fCB isiD (fAc (fE2 ixD (fvar 0) (fC (.int 1))) (fAc (fC (.ty "tuple")) fA0))))))) (fRt (fC (.bl false))) fNx)
    (fSq (fAs (fvar 0) (fGt 2 (fGc (fNm 1) (fGc (fNm 2) fG0))))
    (fSq (fIfS (fOr (fNot (fTb (fChain leD leD (fC (.int 1)) (fCB lenD (fAc (fvar 1) fA0)) (fC (.int 24))))) (fOr (fNot (fTb (fCall F_is_ascending (fAc (fvar 1) fA0)))) (fTb (fE2 gtD (fCB lenD (fAc (fvar 2) fA0)) (fC (.int 120)))))) (fRt (fC (.bl false))) fNx)
    (fSq (fIfS (fOr (fNot (fTb (fCB allD (fAc (fLc (fSeqI (fvar 2)) (fNm 5) fYes (fCall F_is_pair_of_names (fAc (fvar 5) fA0)) [5]) fA0)))) (fNot (fTb (fCall F_is_ascending (fAc (fvar 2) fA0))))) (fRt (fC (.bl false))) fNx)
    (fRt (fCB allD (fAc (fLc (fSeqI (fvar 2)) (fGt 2 (fGc (fNm 3) (fGc (fNm 4) fG0))) fYes (fAndV (fE2 inD (fvar 3) (fvar 1)) (fAndV (fE2 inD (fvar 4) (fvar 1)) (fE2 neD (fvar 3) (fvar 4)))) [3, 4]) fA0)))))))
def F_is_floor_of : FF := run 6 1 B_is_floor_of
theorem ok_is_floor_of {K : PySem.W.Frag} {mg : Str → Option Value} (fx : Fx K mg) : Ok K mg "is_floor_of" ["value"] 4 F_is_floor_of := by
  have b_all := fx.free FH.fi_all (f := .free "all") rfl
  have b_isinstance := fx.free FH.fi_isinstance (f := .free "isinstance") rfl
  have b_len := fx.free FH.fi_len (f := .free "len") rfl
  have b_tuple := fx.free FH.fi_tuple (f := .free "tuple") rfl
  obtain ⟨t_MOST_CELLS, c_MOST_CELLS⟩ := fx.int FH.fi_MOST_CELLS (x := "MOST_CELLS") (n := 24) rfl
  obtain ⟨t_MOST_WAYS, c_MOST_WAYS⟩ := fx.int FH.fi_MOST_WAYS (x := "MOST_WAYS") (n := 120) rfl
  refine okD (N := N_is_floor_of) (ps := ["value"]) (B := B_is_floor_of) fx 8 23 (x := "is_floor_of") rfl rfl ⟨rfl, rfl, rfl, by decide +kernel, rfl, by decide +kernel, by decide +kernel⟩ (fun _ _ _ _ _ _ us hl => match us, hl with | [_], _ => rfl) fun P w base cdv A outer s H hr hgu => ?_
  have nd : N_is_floor_of.Nodup := by decide +kernel
  have hu := hr.units
  exact (sss_cons (ss_if (SW.st (sw_or (st_not (st_val (se_call1 (ok_is_tuple_of fx) hr (by decide) hgu rfl run_len (sa_cons (se_var 0) (sa_cons se_int sa_nil))))) (sw_or (st_not (st_val (se_call1 (ok_are_names fx) hr (by decide) hgu rfl run_len (sa_cons (se_ixD hu (se_var 0) se_int) sa_nil)))) (sw_or1 (st_not (st_val (se_callB call_isi (oc_isi _) rfl b_isinstance (by decide +kernel) (sa_cons (se_ixD hu (se_var 0) se_int) (sa_cons (se_bltn rfl b_tuple (by decide +kernel)) sa_nil))))))))) (sss_one (ss_ret se_bl)) sss_nil)
    (sss_cons (ss_asg (se_var 0) (sg_tup rfl (sgs_cons (sg_name nd rfl (by first | exact .inl rfl | exact .inr rfl)) (sgs_cons (sg_name nd rfl (by first | exact .inl rfl | exact .inr rfl)) sgs_nil))))
    (sss_cons (ss_if (SW.st (sw_or (st_not (st_chain op_le o2_B0 op_le o2_B0 se_int (se_callB call_lenX (oc_len _) rfl b_len (by decide +kernel) (sa_cons (se_var 1) sa_nil)) (se_globI rfl c_MOST_CELLS))) (sw_or (st_not (st_val (se_call1 (ok_is_ascending fx) hr (by decide) hgu rfl run_len (sa_cons (se_var 1) sa_nil)))) (sw_or1 (st_cmp op_gt o2_B0 (se_callB call_lenX (oc_len _) rfl b_len (by decide +kernel) (sa_cons (se_var 2) sa_nil)) (se_globI rfl c_MOST_WAYS) (nomark _)))))) (sss_one (ss_ret se_bl)) sss_nil)
    (sss_cons (ss_if (SW.st (sw_or (st_not (st_val (se_callB (cr_all rfl) (oc_all _) rfl b_all (by decide +kernel) (sa_cons (se_lc (ow := [("way", 5)]) rfl nd (si_seq (se_var 2)) (blkOk_by (by kernel_rfl)) (SB.no (fun _ _ _ _ _ => (sg_name nd rfl (by first | exact .inl rfl | exact .inr rfl))) (fun _ _ _ _ _ => (se_call1 (ok_is_pair_of_names fx) hr (by decide) hgu rfl run_len (sa_cons (se_var 5) sa_nil)))) (by decide)) sa_nil)))) (sw_or1 (st_not (st_val (se_call1 (ok_is_ascending fx) hr (by decide) hgu rfl run_len (sa_cons (se_var 2) sa_nil))))))) (sss_one (ss_ret se_bl)) sss_nil)
    (sss_one (ss_ret (se_callB (cr_all rfl) (oc_all _) rfl b_all (by decide +kernel) (sa_cons (se_lc (ow := [("one", 3), ("other", 4)]) rfl nd (si_seq (se_var 2)) (blkOk_by (by kernel_rfl)) (SB.no (fun _ _ _ _ _ => (sg_tup rfl (sgs_cons (sg_name nd rfl (by first | exact .inl rfl | exact .inr rfl)) (sgs_cons (sg_name nd rfl (by first | exact .inl rfl | exact .inr rfl)) sgs_nil)))) (fun _ _ _ _ _ => (se_and (se_cmp (op_inX hu) (o2_inS _ false) (se_var 3) (se_var 1) (by rfl)) (se_and (se_cmp (op_inX hu) (o2_inS _ false) (se_var 4) (se_var 1) (by rfl)) (se_one (se_cmp (op_neX hu) (o2_data _ _) (se_var 3) (se_var 4) (nomark _))))))) (by decide)) sa_nil))))))))
def N_check_floor : List Str := ["value"]
def B_check_floor : FS := (fSq (fIfS (fNot (fTb (fCall F_is_floor_of (fAc (fvar 0) fA0)))) fNo fNx)
    (fRt (fvar 0)))
def F_check_floor : FF := run 1 1 B_check_floor
theorem ok_check_floor {K : PySem.W.Frag} {mg : Str → Option Value} (fx : Fx K mg) : Ok K mg "check_floor" ["value"] 5 F_check_floor := by
  refine okD (N := N_check_floor) (ps := ["value"]) (B := B_check_floor) fx 9 24 (x := "check_floor") rfl rfl ⟨rfl, rfl, rfl, by decide +kernel, rfl, by decide +kernel, by decide +kernel⟩ (fun _ _ _ _ _ _ us hl => match us, hl with | [_], _ => rfl) fun P w base cdv A outer s H hr hgu => ?_
  have nd : N_check_floor.Nodup := by decide +kernel
  have hu := hr.units
  exact (sss_cons (ss_if (st_not (st_val (se_call1 (ok_is_floor_of fx) hr (by decide) hgu rfl run_len (sa_cons (se_var 0) sa_nil)))) (sss_one ss_never) sss_nil)
    (sss_one (ss_ret (se_var 0))))
def N_check_cell : List Str := ["floor", "cell"]
def B_check_cell : FS := (fIfS (fOr (fNot (fTb (fCB isiD (fAc (fvar 1) (fAc (fC (.ty "str")) fA0))))) (fTb (fE2 notInD (fvar 1) (fE2 ixD (fvar 0) (fC (.int 0)))))) fNo fNx)
def F_check_cell : FF := run 2 2 B_check_cell
theorem ok_check_cell {K : PySem.W.Frag} {mg : Str → Option Value} (fx : Fx K mg) : Ok K mg "check_cell" ["floor", "cell"] 1 F_check_cell := by
  have b_isinstance := fx.free FH.fi_isinstance (f := .free "isinstance") rfl
  have b_str := fx.free FH.fi_str (f := .free "str") rfl
  refine okD (N := N_check_cell) (ps := ["floor", "cell"]) (B := B_check_cell) fx 10 25 (x := "check_cell") rfl rfl ⟨rfl, rfl, rfl, by decide +kernel, rfl, by decide +kernel, by decide +kernel⟩ (fun _ _ _ _ _ _ us hl => match us, hl with | [_, _], _ => rfl) fun P w base cdv A outer s H hr hgu => ?_
  have nd : N_check_cell.Nodup := by decide +kernel
  have hu := hr.units
  exact (sss_one (ss_if (SW.st (sw_or (st_not (st_val (se_callB call_isi (oc_isi _) rfl b_isinstance (by decide +kernel) (sa_cons (se_var 1) (sa_cons (se_bltn rfl b_str (by decide +kernel)) sa_nil))))) (sw_or1 (st_cmp (op_notInX hu) (o2_inS _ true) (se_var 1) (se_ixD hu (se_var 0) se_int) (by rfl))))) (sss_one ss_never) sss_nil))
def N_check_cells : List Str := ["floor", "one", "other"]
def B_check_cells : FS := (fSq (fEx (fCall F_check_floor (fAc (fvar 0) fA0)))
    (fSq (fEx (fCall F_check_cell (fAc (fvar 0) (fAc (fvar 1) fA0))))
    (fEx (fCall F_check_cell (fAc (fvar 0) (fAc (fvar 2) fA0))))))
def F_check_cells : FF := run 3 3 B_check_cells
theorem ok_check_cells {K : PySem.W.Frag} {mg : Str → Option Value} (fx : Fx K mg) : Ok K mg "check_cells" ["floor", "one", "other"] 6 F_check_cells := by
  refine okD (N := N_check_cells) (ps := ["floor", "one", "other"]) (B := B_check_cells) fx 11 26 (x := "check_cells") rfl rfl ⟨rfl, rfl, rfl, by decide +kernel, rfl, by decide +kernel, by decide +kernel⟩ (fun _ _ _ _ _ _ us hl => match us, hl with | [_, _, _], _ => rfl) fun P w base cdv A outer s H hr hgu => ?_
  have nd : N_check_cells.Nodup := by decide +kernel
  have hu := hr.units
  exact (sss_cons (ss_expr (se_call1 (ok_check_floor fx) hr (by decide) hgu rfl run_len (sa_cons (se_var 0) sa_nil)))
    (sss_cons (ss_expr (se_call1 (ok_check_cell fx) hr (by decide) hgu rfl run_len (sa_cons (se_var 0) (sa_cons (se_var 1) sa_nil))))
    (sss_one (ss_expr (se_call1 (ok_check_cell fx) hr (by decide) hgu rfl run_len (sa_cons (se_var 0) (sa_cons (se_var 2) sa_nil)))))))
def N_is_lot_of : List Str := ["floor", "value", "cell"]
def B_is_lot_of : FS := (fRt (fAndV (fCall F_are_names (fAc (fvar 1) fA0)) (fAndV (fCall F_is_ascending (fAc (fvar 1) fA0)) (fCB allD (fAc (fLc (fSeqI (fvar 1)) (fNm 2) fYes (fE2 inD (fvar 2) (fE2 ixD (fvar 0) (fC (.int 0)))) [2]) fA0)))))
def F_is_lot_of : FF := run 3 2 B_is_lot_of
theorem ok_is_lot_of {K : PySem.W.Frag} {mg : Str → Option Value} (fx : Fx K mg) : Ok K mg "is_lot_of" ["floor", "value"] 3 F_is_lot_of := by
  have b_all := fx.free FH.fi_all (f := .free "all") rfl
  refine okD (N := N_is_lot_of) (ps := ["floor", "value"]) (B := B_is_lot_of) fx 12 27 (x := "is_lot_of") rfl rfl ⟨rfl, rfl, rfl, by decide +kernel, rfl, by decide +kernel, by decide +kernel⟩ (fun _ _ _ _ _ _ us hl => match us, hl with | [_, _], _ => rfl) fun P w base cdv A outer s H hr hgu => ?_
  have nd : N_is_lot_of.Nodup := by decide +kernel
  have hu := hr.units
  exact (sss_one (ss_ret (se_and (se_call1 (ok_are_names fx) hr (by decide) hgu rfl run_len (sa_cons (se_var 1) sa_nil)) (se_and (se_call1 (ok_is_ascending fx) hr (by decide) hgu rfl run_len (sa_cons (se_var 1) sa_nil)) (se_one (se_callB (cr_all rfl) (oc_all _) rfl b_all (by decide +kernel) (sa_cons (se_lc (ow := [("cell", 2)]) rfl nd (si_seq (se_var 1)) (blkOk_by (by kernel_rfl)) (SB.no (fun _ _ _ _ _ => (sg_name nd rfl (by first | exact .inl rfl | exact .inr rfl))) (fun _ _ _ _ _ => (se_cmp (op_inX hu) (o2_inS _ false) (se_var 2) (se_ixD hu (se_var 0) se_int) (by rfl)))) (by decide)) sa_nil)))))))
def N_goes_from : List Str := ["floor", "found", "one", "other", "cell"]
def B_goes_from : FS := (fSq (fAs (fCB dictKD (fAc (fLc (fSeqI (fE2 ixD (fvar 0) (fC (.int 0)))) (fNm 4) fYes (fTup (fAc (fvar 4) (fAc (fLst fA0) fA0))) [4]) fA0)) (fNm 1))
    (fSq (fFor (fSeqI (fE2 ixD (fvar 0) (fC (.int 1)))) (fGt 2 (fGc (fNm 2) (fGc (fNm 3) fG0)))
    (fEx (fM "list" appD (fE2 ixD (fvar 1) (fvar 2)) (fAc (fvar 3) fA0))))
    (fRt (fvar 1))))
def F_goes_from : FF := run 5 1 B_goes_from
theorem ok_goes_from {K : PySem.W.Frag} {mg : Str → Option Value} (fx : Fx K mg) : Ok K mg "goes_from" ["floor"] 1 F_goes_from := by
  have b_dict := fx.free FH.fi_dict (f := .free "dict") rfl
  refine okD (N := N_goes_from) (ps := ["floor"]) (B := B_goes_from) fx 13 28 (x := "goes_from") rfl rfl ⟨rfl, rfl, rfl, by decide +kernel, rfl, by decide +kernel, by decide +kernel⟩ (fun _ _ _ _ _ _ us hl => match us, hl with | [_], _ => rfl) fun P w base cdv A outer s H hr hgu => ?_
  have nd : N_goes_from.Nodup := by decide +kernel
  have hu := hr.units
  exact (sss_cons (ss_set nd rfl (by first | exact .inl rfl | exact .inr rfl) (se_callTy (call_dictX rfl) (oc_dictK _) rfl b_dict (by decide +kernel) (sa_cons (se_lc (ow := [("cell", 4)]) rfl nd (si_seq (se_ixD hu (se_var 0) se_int)) (blkOk_by (by kernel_rfl)) (SB.no (fun _ _ _ _ _ => (sg_name nd rfl (by first | exact .inl rfl | exact .inr rfl))) (fun _ _ _ _ _ => (se_tup (sa_cons (se_var 4) (sa_cons (se_lst sa_nil) sa_nil))))) (by decide)) sa_nil)))
    (sss_cons (ss_for PassesOwn.never rfl (si_seq (se_ixD hu (se_var 0) se_int)) (sg_tup rfl (sgs_cons (sg_name nd rfl (by first | exact .inl rfl | exact .inr rfl)) (sgs_cons (sg_name nd rfl (by first | exact .inl rfl | exact .inr rfl)) sgs_nil))) (sss_one (ss_expr (se_append (se_ixD hu (se_var 1) (se_var 2)) (se_var 3)))))
    (sss_one (ss_ret (se_var 1)))))
def N_goes_into : List Str := ["floor", "found", "one", "other", "cell"]
def B_goes_into : FS := (fSq (fAs (fCB dictKD (fAc (fLc (fSeqI (fE2 ixD (fvar 0) (fC (.int 0)))) (fNm 4) fYes (fTup (fAc (fvar 4) (fAc (fLst fA0) fA0))) [4]) fA0)) (fNm 1))
    (fSq (fFor (fSeqI (fE2 ixD (fvar 0) (fC (.int 1)))) (fGt 2 (fGc (fNm 2) (fGc (fNm 3) fG0)))
    (fEx (fM "list" appD (fE2 ixD (fvar 1) (fvar 3)) (fAc (fvar 2) fA0))))
    (fRt (fvar 1))))
def F_goes_into : FF := run 5 1 B_goes_into
theorem ok_goes_into {K : PySem.W.Frag} {mg : Str → Option Value} (fx : Fx K mg) : Ok K mg "goes_into" ["floor"] 1 F_goes_into := by
  have b_dict := fx.free FH.fi_dict (f := .free "dict") rfl
  refine okD (N := N_goes_into) (ps := ["floor"]) (B := B_goes_into) fx 14 29 (x := "goes_into") rfl rfl ⟨rfl, rfl, rfl, by decide +kernel, rfl, by decide +kernel, by decide +kernel⟩ (fun _ _ _ _ _ _ us hl => match us, hl with | [_], _ => rfl) fun P w base cdv A outer s H hr hgu => ?_
  have nd : N_goes_into.Nodup := by decide +kernel
  have hu := hr.units
  exact (sss_cons (ss_set nd rfl (by first | exact .inl rfl | exact .inr rfl) (se_callTy (call_dictX rfl) (oc_dictK _) rfl b_dict (by decide +kernel) (sa_cons (se_lc (ow := [("cell", 4)]) rfl nd (si_seq (se_ixD hu (se_var 0) se_int)) (blkOk_by (by kernel_rfl)) (SB.no (fun _ _ _ _ _ => (sg_name nd rfl (by first | exact .inl rfl | exact .inr rfl))) (fun _ _ _ _ _ => (se_tup (sa_cons (se_var 4) (sa_cons (se_lst sa_nil) sa_nil))))) (by decide)) sa_nil)))
    (sss_cons (ss_for PassesOwn.never rfl (si_seq (se_ixD hu (se_var 0) se_int)) (sg_tup rfl (sgs_cons (sg_name nd rfl (by first | exact .inl rfl | exact .inr rfl)) (sgs_cons (sg_name nd rfl (by first | exact .inl rfl | exact .inr rfl)) sgs_nil))) (sss_one (ss_expr (se_append (se_ixD hu (se_var 1) (se_var 3)) (se_var 2)))))
    (sss_one (ss_ret (se_var 1)))))
def N_out_of : List Str := ["floor", "lot", "way"]
def B_out_of : FS := (fRt (fLc (fSeqI (fE2 ixD (fvar 0) (fC (.int 1)))) (fNm 2) (fAnd (fTb (fE2 inD (fE2 ixD (fvar 2) (fC (.int 0))) (fvar 1))) (fTb (fE2 notInD (fE2 ixD (fvar 2) (fC (.int 1))) (fvar 1)))) (fvar 2) [2]))
def F_out_of : FF := run 3 2 B_out_of
theorem ok_out_of {K : PySem.W.Frag} {mg : Str → Option Value} (fx : Fx K mg) : Ok K mg "out_of" ["floor", "lot"] 1 F_out_of := by
  refine okD (N := N_out_of) (ps := ["floor", "lot"]) (B := B_out_of) fx 15 30 (x := "out_of") rfl rfl ⟨rfl, rfl, rfl, by decide +kernel, rfl, by decide +kernel, by decide +kernel⟩ (fun _ _ _ _ _ _ us hl => match us, hl with | [_, _], _ => rfl) fun P w base cdv A outer s H hr hgu => ?_
  have nd : N_out_of.Nodup := by decide +kernel
  have hu := hr.units
  exact (sss_one (ss_ret (se_lc (ow := [("way", 2)]) rfl nd (si_seq (se_ixD hu (se_var 0) se_int)) (blkOk_by (by kernel_rfl)) (SB.one (fun _ _ _ _ _ => (sg_name nd rfl (by first | exact .inl rfl | exact .inr rfl))) (fun _ _ _ _ _ => (se_var 2)) (fun _ _ _ _ _ => (SW.st (sw_and (st_cmp (op_inX hu) (o2_inS _ false) (se_ixD hu (se_var 2) se_int) (se_var 1) (by rfl)) (sw_and1 (st_cmp (op_notInX hu) (o2_inS _ true) (se_ixD hu (se_var 2) se_int) (se_var 1) (by rfl))))))) (by decide))))
def N_fars_of : List Str := ["floor", "begin", "outs", "found", "waiting", "here", "there"]
def B_fars_of : FS := (fSq (fPar3 2 3 4 (fAc (fCall F_goes_from (fAc (fvar 0) fA0)) (fAc (fDK1 (fvar 1) (fC (.int 0))) (fAc (fLst (fAc (fvar 1) fA0)) fA0))))
    (fSq (fWh (fTb (fE2 neD (fvar 4) (fLst fA0)))
    (fSq (fAs (fM "list" popD (fvar 4) (fAc (fC (.int 0)) fA0)) (fNm 5))
    (fFor (fSeqI (fE2 ixD (fvar 2) (fvar 5))) (fNm 6)
    (fIfS (fTb (fE2 notInD (fvar 6) (fvar 3))) (fSq (fPut (fE2 addD (fE2 ixD (fvar 3) (fvar 5)) (fC (.int 1))) (fvar 3) (fvar 6))
    (fEx (fM "list" appD (fvar 4) (fAc (fvar 6) fA0)))) fNx))) 100000)
    (fRt (fvar 3))))
def F_fars_of : FF := run 7 2 B_fars_of
theorem ok_fars_of {K : PySem.W.Frag} {mg : Str → Option Value} (fx : Fx K mg) : Ok K mg "fars_of" ["floor", "begin"] 2 F_fars_of := by
  refine okD (N := N_fars_of) (ps := ["floor", "begin"]) (B := B_fars_of) fx 16 31 (x := "fars_of") rfl rfl ⟨rfl, rfl, rfl, by decide +kernel, rfl, by decide +kernel, by decide +kernel⟩ (fun _ _ _ _ _ _ us hl => match us, hl with | [_, _], _ => rfl) fun P w base cdv A outer s H hr hgu => ?_
  have nd : N_fars_of.Nodup := by decide +kernel
  have hu := hr.units
  exact (sss_cons (ss_par3 rfl nd rfl rfl rfl (by decide) (by decide) (by decide) rfl rfl rfl (sa_cons (se_call1 (ok_goes_from fx) hr (by decide) hgu rfl run_len (sa_cons (se_var 0) sa_nil)) (sa_cons (se_disp1 (se_var 1) se_int) (sa_cons (se_lst (sa_cons (se_var 1) sa_nil)) sa_nil))) (by rfl))
    (sss_cons (ss_while 100000 PassesOwn.never (st_cmp (op_neX hu) (o2_data _ _) (se_var 4) (se_lst sa_nil) (nomark _)) (sss_cons (ss_set nd rfl (by first | exact .inl rfl | exact .inr rfl) (se_popAt (se_var 4) se_int))
    (sss_one (ss_for PassesOwn.never rfl (si_seq (se_ixD hu (se_var 2) (se_var 5))) (sg_name nd rfl (by first | exact .inl rfl | exact .inr rfl)) (sss_one (ss_if (st_cmp (op_notInX hu) (o2_inS _ true) (se_var 6) (se_var 3) (by rfl)) (sss_cons (ss_put hu (se_var 3) (se_var 6) (se_add (se_ixD hu (se_var 3) (se_var 5)) se_int))
    (sss_one (ss_expr (se_append (se_var 4) (se_var 6))))) sss_nil))))))
    (sss_one (ss_ret (se_var 3)))))
def N_lot_from : List Str := ["floor", "begin"]
def B_lot_from : FS := (fRt (fCB tupD (fAc (fCB sortD (fAc (fCall F_fars_of (fAc (fvar 0) (fAc (fvar 1) fA0))) fA0)) fA0)))
def F_lot_from : FF := run 2 2 B_lot_from
theorem ok_lot_from {K : PySem.W.Frag} {mg : Str → Option Value} (fx : Fx K mg) : Ok K mg "lot_from" ["floor", "begin"] 3 F_lot_from := by
  have b_sorted := fx.free FH.fi_sorted (f := .free "sorted") rfl
  have b_tuple := fx.free FH.fi_tuple (f := .free "tuple") rfl
  refine okD (N := N_lot_from) (ps := ["floor", "begin"]) (B := B_lot_from) fx 17 32 (x := "lot_from") rfl rfl ⟨rfl, rfl, rfl, by decide +kernel, rfl, by decide +kernel, by decide +kernel⟩ (fun _ _ _ _ _ _ us hl => match us, hl with | [_, _], _ => rfl) fun P w base cdv A outer s H hr hgu => ?_
  have nd : N_lot_from.Nodup := by decide +kernel
  have hu := hr.units
  exact (sss_one (ss_ret (se_callTy call_tupX (oc_tup _) rfl b_tuple (by decide +kernel) (sa_cons (se_callB (call_sortX rfl hu) (oc_sort _) rfl b_sorted (by decide +kernel) (sa_cons (se_call1 (ok_fars_of fx) hr (by decide) hgu rfl run_len (sa_cons (se_var 0) (sa_cons (se_var 1) sa_nil))) sa_nil)) sa_nil))))
def N_is_shut_lot : List Str := ["floor", "one", "other", "value"]
def B_is_shut_lot : FS := (fRt (fAndV (fCall F_is_lot_of (fAc (fvar 0) (fAc (fvar 3) fA0))) (fAndV (fE2 inD (fvar 1) (fvar 3)) (fAndV (fE2 notInD (fvar 2) (fvar 3)) (fE2 eqD (fCall F_out_of (fAc (fvar 0) (fAc (fvar 3) fA0))) (fLst fA0))))))
def F_is_shut_lot : FF := run 4 4 B_is_shut_lot
theorem ok_is_shut_lot {K : PySem.W.Frag} {mg : Str → Option Value} (fx : Fx K mg) : Ok K mg "is_shut_lot" ["floor", "one", "other", "value"] 4 F_is_shut_lot := by
  refine okD (N := N_is_shut_lot) (ps := ["floor", "one", "other", "value"]) (B := B_is_shut_lot) fx 18 33 (x := "is_shut_lot") rfl rfl ⟨rfl, rfl, rfl, by decide +kernel, rfl, by decide +kernel, by decide +kernel⟩ (fun _ _ _ _ _ _ us hl => match us, hl with | [_, _, _, _], _ => rfl) fun P w base cdv A outer s H hr hgu => ?_
  have nd : N_is_shut_lot.Nodup := by decide +kernel
  have hu := hr.units
  exact (sss_one (ss_ret (se_and (se_call1 (ok_is_lot_of fx) hr (by decide) hgu rfl run_len (sa_cons (se_var 0) (sa_cons (se_var 3) sa_nil))) (se_and (se_cmp (op_inX hu) (o2_inS _ false) (se_var 1) (se_var 3) (by rfl)) (se_and (se_cmp (op_notInX hu) (o2_inS _ true) (se_var 2) (se_var 3) (by rfl)) (se_one (se_cmp (op_eqX hu) (o2_data _ _) (se_call1 (ok_out_of fx) hr (by decide) hgu rfl run_len (sa_cons (se_var 0) (sa_cons (se_var 3) sa_nil))) (se_lst sa_nil) (nomark _))))))))
def N_is_gate : List Str := ["floor", "many", "value", "phases"]
def B_is_gate : FS := (fSq (fIfS (fOr (fNot (fTb (fCall F_is_tuple_of (fAc (fvar 2) (fAc (fC (.int 4)) fA0))))) (fOr (fNot (fTb (fCall F_is_pair_of_names (fAc (fSl (fvar 2) fO0 (fO1 (fC (.int 2)))) fA0)))) (fTb (fE2 notInD (fSl (fvar 2) fO0 (fO1 (fC (.int 2)))) (fE2 ixD (fvar 0) (fC (.int 1))))))) (fRt (fC (.bl false))) fNx)
    (fSq (fAs (fE2 ixD (fvar 2) (fC (.int 2))) (fNm 3))
    (fSq (fIfS (fOr (fNot (fTb (fCall F_are_between (fAc (fvar 3) (fAc (fC (.int 0)) (fAc (fE2 subD (fvar 1) (fC (.int 1))) fA0)))))) (fOr (fTb (fE2 eqD (fvar 3) (fTup fA0))) (fNot (fTb (fCall F_is_ascending (fAc (fvar 3) fA0)))))) (fRt (fC (.bl false))) fNx)
    (fRt (fCall F_is_between (fAc (fE2 ixD (fvar 2) (fE1 negD (fC (.int 1)))) (fAc (fC (.int 1)) (fAc (fC (.int 9)) fA0))))))))
def F_is_gate : FF := run 4 3 B_is_gate
theorem ok_is_gate {K : PySem.W.Frag} {mg : Str → Option Value} (fx : Fx K mg) : Ok K mg "is_gate" ["floor", "many", "value"] 4 F_is_gate := by
  obtain ⟨t_FOUR, c_FOUR⟩ := fx.int FH.fi_FOUR (x := "FOUR") (n := 4) rfl
  obtain ⟨t_MOST_TAKES, c_MOST_TAKES⟩ := fx.int FH.fi_MOST_TAKES (x := "MOST_TAKES") (n := 9) rfl
  refine okD (N := N_is_gate) (ps := ["floor", "many", "value"]) (B := B_is_gate) fx 19 43 (x := "is_gate") rfl rfl ⟨rfl, rfl, rfl, by decide +kernel, rfl, by decide +kernel, by decide +kernel⟩ (fun _ _ _ _ _ _ us hl => match us, hl with | [_, _, _], _ => rfl) fun P w base cdv A outer s H hr hgu => ?_
  have nd : N_is_gate.Nodup := by decide +kernel
  have hu := hr.units
  exact (sss_cons (ss_if (SW.st (sw_or (st_not (st_val (se_call1 (ok_is_tuple_of fx) hr (by decide) hgu rfl run_len (sa_cons (se_var 2) (sa_cons (se_globI rfl c_FOUR) sa_nil))))) (sw_or (st_not (st_val (se_call1 (ok_is_pair_of_names fx) hr (by decide) hgu rfl run_len (sa_cons (se_sl (se_var 2) so_none (so_some se_int)) sa_nil)))) (sw_or1 (st_cmp (op_notInX hu) (o2_inS _ true) (se_sl (se_var 2) so_none (so_some se_int)) (se_ixD hu (se_var 0) se_int) (by rfl)))))) (sss_one (ss_ret se_bl)) sss_nil)
    (sss_cons (ss_set nd rfl (by first | exact .inl rfl | exact .inr rfl) (se_ixD hu (se_var 2) se_int))
    (sss_cons (ss_if (SW.st (sw_or (st_not (st_val (se_call1 (ok_are_between fx) hr (by decide) hgu rfl run_len (sa_cons (se_var 3) (sa_cons se_int (sa_cons (se_sub (se_var 1) se_int) sa_nil)))))) (sw_or (st_cmp (op_eqX hu) (o2_data _ _) (se_var 3) (se_tup sa_nil) (nomark _)) (sw_or1 (st_not (st_val (se_call1 (ok_is_ascending fx) hr (by decide) hgu rfl run_len (sa_cons (se_var 3) sa_nil)))))))) (sss_one (ss_ret se_bl)) sss_nil)
    (sss_one (ss_ret (se_call1 (ok_is_between fx) hr (by decide) hgu rfl run_len (sa_cons (se_ixD hu (se_var 2) (se_neg se_int)) (sa_cons se_int (sa_cons (se_globI rfl c_MOST_TAKES) sa_nil)))))))))
def N_are_gates_of : List Str := ["floor", "value", "gate"]
def B_are_gates_of : FS := (fSq (fIfS (fOr (fNot (fTb (fCall F_is_tuple_of (fAc (fvar 1) (fAc (fC (.int 2)) fA0))))) (fOr (fNot (fTb (fCall F_is_between (fAc (fE2 ixD (fvar 1) (fC (.int 0))) (fAc (fC (.int 1)) (fAc (fC (.int 12)) fA0)))))) (fNot (fTb (fCB isiD (fAc (fE2 ixD (fvar 1) (fC (.int 1))) (fAc (fC (.ty "tuple")) fA0))))))) (fRt (fC (.bl false))) fNx)
    (fRt (fAndV (fCB allD (fAc (fLc (fSeqI (fE2 ixD (fvar 1) (fC (.int 1)))) (fNm 2) fYes (fCall F_is_gate (fAc (fvar 0) (fAc (fE2 ixD (fvar 1) (fC (.int 0))) (fAc (fvar 2) fA0)))) [2]) fA0)) (fCall F_is_ascending (fAc (fLc (fSeqI (fE2 ixD (fvar 1) (fC (.int 1)))) (fNm 2) fYes (fSl (fvar 2) fO0 (fO1 (fC (.int 2)))) [2]) fA0)))))
def F_are_gates_of : FF := run 3 2 B_are_gates_of
theorem ok_are_gates_of {K : PySem.W.Frag} {mg : Str → Option Value} (fx : Fx K mg) : Ok K mg "are_gates_of" ["floor", "value"] 5 F_are_gates_of := by
  have b_all := fx.free FH.fi_all (f := .free "all") rfl
  have b_isinstance := fx.free FH.fi_isinstance (f := .free "isinstance") rfl
  have b_tuple := fx.free FH.fi_tuple (f := .free "tuple") rfl
  obtain ⟨t_MOST_ROUND, c_MOST_ROUND⟩ := fx.int FH.fi_MOST_ROUND (x := "MOST_ROUND") (n := 12) rfl
  refine okD (N := N_are_gates_of) (ps := ["floor", "value"]) (B := B_are_gates_of) fx 20 44 (x := "are_gates_of") rfl rfl ⟨rfl, rfl, rfl, by decide +kernel, rfl, by decide +kernel, by decide +kernel⟩ (fun _ _ _ _ _ _ us hl => match us, hl with | [_, _], _ => rfl) fun P w base cdv A outer s H hr hgu => ?_
  have nd : N_are_gates_of.Nodup := by decide +kernel
  have hu := hr.units
  exact (sss_cons (ss_if (SW.st (sw_or (st_not (st_val (se_call1 (ok_is_tuple_of fx) hr (by decide) hgu rfl run_len (sa_cons (se_var 1) (sa_cons se_int sa_nil))))) (sw_or (st_not (st_val (se_call1 (ok_is_between fx) hr (by decide) hgu rfl run_len (sa_cons (se_ixD hu (se_var 1) se_int) (sa_cons se_int (sa_cons (se_globI rfl c_MOST_ROUND) sa_nil)))))) (sw_or1 (st_not (st_val (se_callB call_isi (oc_isi _) rfl b_isinstance (by decide +kernel) (sa_cons (se_ixD hu (se_var 1) se_int) (sa_cons (se_bltn rfl b_tuple (by decide +kernel)) sa_nil))))))))) (sss_one (ss_ret se_bl)) sss_nil)
    (sss_one (ss_ret (se_and (se_callB (cr_all rfl) (oc_all _) rfl b_all (by decide +kernel) (sa_cons (se_lc (ow := [("gate", 2)]) rfl nd (si_seq (se_ixD hu (se_var 1) se_int)) (blkOk_by (by kernel_rfl)) (SB.no (fun _ _ _ _ _ => (sg_name nd rfl (by first | exact .inl rfl | exact .inr rfl))) (fun _ _ _ _ _ => (se_call1 (ok_is_gate fx) hr (by decide) hgu rfl run_len (sa_cons (se_var 0) (sa_cons (se_ixD hu (se_var 1) se_int) (sa_cons (se_var 2) sa_nil)))))) (by decide)) sa_nil)) (se_one (se_call1 (ok_is_ascending fx) hr (by decide) hgu rfl run_len (sa_cons (se_lc (ow := [("gate", 2)]) rfl nd (si_seq (se_ixD hu (se_var 1) se_int)) (blkOk_by (by kernel_rfl)) (SB.no (fun _ _ _ _ _ => (sg_name nd rfl (by first | exact .inl rfl | exact .inr rfl))) (fun _ _ _ _ _ => (se_sl (se_var 2) so_none (so_some se_int)))) (by decide)) sa_nil)))))))
def N_check_gates : List Str := ["floor", "gates"]
def B_check_gates : FS := (fSq (fEx (fCall F_check_floor (fAc (fvar 0) fA0)))
    (fIfS (fNot (fTb (fCall F_are_gates_of (fAc (fvar 0) (fAc (fvar 1) fA0))))) fNo fNx))
def F_check_gates : FF := run 2 2 B_check_gates
theorem ok_check_gates {K : PySem.W.Frag} {mg : Str → Option Value} (fx : Fx K mg) : Ok K mg "check_gates" ["floor", "gates"] 6 F_check_gates := by
  refine okD (N := N_check_gates) (ps := ["floor", "gates"]) (B := B_check_gates) fx 21 45 (x := "check_gates") rfl rfl ⟨rfl, rfl, rfl, by decide +kernel, rfl, by decide +kernel, by decide +kernel⟩ (fun _ _ _ _ _ _ us hl => match us, hl with | [_, _], _ => rfl) fun P w base cdv A outer s H hr hgu => ?_
  have nd : N_check_gates.Nodup := by decide +kernel
  have hu := hr.units
  exact (sss_cons (ss_expr (se_call1 (ok_check_floor fx) hr (by decide) hgu rfl run_len (sa_cons (se_var 0) sa_nil)))
    (sss_one (ss_if (st_not (st_val (se_call1 (ok_are_gates_of fx) hr (by decide) hgu rfl run_len (sa_cons (se_var 0) (sa_cons (se_var 1) sa_nil))))) (sss_one ss_never) sss_nil)))
def N_check_ends : List Str := ["floor", "gates", "one", "other"]
def B_check_ends : FS := (fSq (fEx (fCall F_check_gates (fAc (fvar 0) (fAc (fvar 1) fA0))))
    (fEx (fCall F_check_cells (fAc (fvar 0) (fAc (fvar 2) (fAc (fvar 3) fA0))))))
def F_check_ends : FF := run 4 4 B_check_ends
theorem ok_check_ends {K : PySem.W.Frag} {mg : Str → Option Value} (fx : Fx K mg) : Ok K mg "check_ends" ["floor", "gates", "one", "other"] 7 F_check_ends := by
  refine okD (N := N_check_ends) (ps := ["floor", "gates", "one", "other"]) (B := B_check_ends) fx 22 46 (x := "check_ends") rfl rfl ⟨rfl, rfl, rfl, by decide +kernel, rfl, by decide +kernel, by decide +kernel⟩ (fun _ _ _ _ _ _ us hl => match us, hl with | [_, _, _, _], _ => rfl) fun P w base cdv A outer s H hr hgu => ?_
  have nd : N_check_ends.Nodup := by decide +kernel
  have hu := hr.units
  exact (sss_cons (ss_expr (se_call1 (ok_check_gates fx) hr (by decide) hgu rfl run_len (sa_cons (se_var 0) (sa_cons (se_var 1) sa_nil))))
    (sss_one (ss_expr (se_call1 (ok_check_cells fx) hr (by decide) hgu rfl run_len (sa_cons (se_var 0) (sa_cons (se_var 2) (sa_cons (se_var 3) sa_nil)))))))
def N_check_tick : List Str := ["tick"]
def B_check_tick : FS := (fIfS (fNot (fTb (fCall F_is_between (fAc (fvar 0) (fAc (fC (.int 0)) (fAc (fC (.int 9999)) fA0)))))) fNo fNx)
def F_check_tick : FF := run 1 1 B_check_tick
theorem ok_check_tick {K : PySem.W.Frag} {mg : Str → Option Value} (fx : Fx K mg) : Ok K mg "check_tick" ["tick"] 3 F_check_tick := by
  obtain ⟨t_MOST_TICK, c_MOST_TICK⟩ := fx.int FH.fi_MOST_TICK (x := "MOST_TICK") (n := 9999) rfl
  refine okD (N := N_check_tick) (ps := ["tick"]) (B := B_check_tick) fx 23 47 (x := "check_tick") rfl rfl ⟨rfl, rfl, rfl, by decide +kernel, rfl, by decide +kernel, by decide +kernel⟩ (fun _ _ _ _ _ _ us hl => match us, hl with | [_], _ => rfl) fun P w base cdv A outer s H hr hgu => ?_
  have nd : N_check_tick.Nodup := by decide +kernel
  have hu := hr.units
  exact (sss_one (ss_if (st_not (st_val (se_call1 (ok_is_between fx) hr (by decide) hgu rfl run_len (sa_cons (se_var 0) (sa_cons se_int (sa_cons (se_globI rfl c_MOST_TICK) sa_nil)))))) (sss_one ss_never) sss_nil))
def N_known_gates : List Str := ["gates", "gate"]
def B_known_gates : FS := (fRt (fCB dictTD (fAc (fLc (fSeqI (fE2 ixD (fvar 0) (fC (.int 1)))) (fNm 1) fYes (fTup (fAc (fSl (fvar 1) fO0 (fO1 (fC (.int 2)))) (fAc (fSl (fvar 1) (fO1 (fC (.int 2))) fO0) fA0))) [1]) fA0)))
def F_known_gates : FF := run 2 1 B_known_gates
theorem ok_known_gates {K : PySem.W.Frag} {mg : Str → Option Value} (fx : Fx K mg) : Ok K mg "known_gates" ["gates"] 1 F_known_gates := by
  have b_dict := fx.free FH.fi_dict (f := .free "dict") rfl
  refine okD (N := N_known_gates) (ps := ["gates"]) (B := B_known_gates) fx 24 48 (x := "known_gates") rfl rfl ⟨rfl, rfl, rfl, by decide +kernel, rfl, by decide +kernel, by decide +kernel⟩ (fun _ _ _ _ _ _ us hl => match us, hl with | [_], _ => rfl) fun P w base cdv A outer s H hr hgu => ?_
  have nd : N_known_gates.Nodup := by decide +kernel
  have hu := hr.units
  exact (sss_one (ss_ret (se_callTy (call_dictT rfl hu) (oc_dictT _) rfl b_dict (by decide +kernel) (sa_cons (se_lc (ow := [("gate", 1)]) rfl nd (si_seq (se_ixD hu (se_var 0) se_int)) (blkOk_by (by kernel_rfl)) (SB.no (fun _ _ _ _ _ => (sg_name nd rfl (by first | exact .inl rfl | exact .inr rfl))) (fun _ _ _ _ _ => (se_tup (sa_cons (se_sl (se_var 1) so_none (so_some se_int)) (sa_cons (se_sl (se_var 1) (so_some se_int) so_none) sa_nil))))) (by decide)) sa_nil))))
def N_is_open : List Str := ["known", "way", "phase"]
def B_is_open : FS := (fRt (fOrV (fE2 notInD (fvar 1) (fvar 0)) (fE2 inD (fvar 2) (fE2 ixD (fE2 ixD (fvar 0) (fvar 1)) (fC (.int 0))))))
def F_is_open : FF := run 3 3 B_is_open
theorem ok_is_open {K : PySem.W.Frag} {mg : Str → Option Value} (fx : Fx K mg) : Ok K mg "is_open" ["known", "way", "phase"] 1 F_is_open := by
  refine okD (N := N_is_open) (ps := ["known", "way", "phase"]) (B := B_is_open) fx 25 49 (x := "is_open") rfl rfl ⟨rfl, rfl, rfl, by decide +kernel, rfl, by decide +kernel, by decide +kernel⟩ (fun _ _ _ _ _ _ us hl => match us, hl with | [_, _, _], _ => rfl) fun P w base cdv A outer s H hr hgu => ?_
  have nd : N_is_open.Nodup := by decide +kernel
  have hu := hr.units
  exact (sss_one (ss_ret (se_or (se_cmp (op_notInX hu) (o2_inS _ true) (se_var 1) (se_var 0) (by rfl)) (se_one (se_cmp (op_inX hu) (o2_inS _ false) (se_var 2) (se_ixD hu (se_ixD hu (se_var 0) (se_var 1)) se_int) (by rfl))))))
def N_takes_of : List Str := ["known", "way"]
def B_takes_of : FS := (fRt (fIf (fTb (fE2 inD (fvar 1) (fvar 0))) (fE2 ixD (fE2 ixD (fvar 0) (fvar 1)) (fC (.int 1))) (fC (.int 1))))
def F_takes_of : FF := run 2 2 B_takes_of
theorem ok_takes_of {K : PySem.W.Frag} {mg : Str → Option Value} (fx : Fx K mg) : Ok K mg "takes_of" ["known", "way"] 1 F_takes_of := by
  refine okD (N := N_takes_of) (ps := ["known", "way"]) (B := B_takes_of) fx 26 50 (x := "takes_of") rfl rfl ⟨rfl, rfl, rfl, by decide +kernel, rfl, by decide +kernel, by decide +kernel⟩ (fun _ _ _ _ _ _ us hl => match us, hl with | [_, _], _ => rfl) fun P w base cdv A outer s H hr hgu => ?_
  have nd : N_takes_of.Nodup := by decide +kernel
  have hu := hr.units
  exact (sss_one (ss_ret (se_if (st_cmp (op_inX hu) (o2_inS _ false) (se_var 1) (se_var 0) (by rfl)) (se_ixD hu (se_ixD hu (se_var 0) (se_var 1)) se_int) se_int)))
end FL

set_option Elab.async false
set_option linter.all false
set_option maxRecDepth 100000
set_option maxHeartbeats 0
set_option autoImplicit false
namespace FL
open PySem PySem.Spec PyProof.Rows L2

def N_set_off : List Str := ["floor", "gates", "one", "other", "tick", "known", "many", "begun", "more"]
def B_set_off : FS := (fSq (fEx (fCall F_check_ends (fAc (fvar 0) (fAc (fvar 1) (fAc (fvar 2) (fAc (fvar 3) fA0))))))
    (fSq (fEx (fCall F_check_tick (fAc (fvar 4) fA0)))
    (fSq (fIfS (fTb (fE2 notInD (fTup (fAc (fvar 2) (fAc (fvar 3) fA0))) (fE2 ixD (fvar 0) (fC (.int 1))))) fNo fNx)
    (fSq (fAs (fTup (fAc (fCall F_known_gates (fAc (fvar 1) fA0)) (fAc (fE2 ixD (fvar 1) (fC (.int 0))) fA0))) (fGt 2 (fGc (fNm 5) (fGc (fNm 6) fG0))))
    (fSq (fAs (fE2 ixD (fLc (fRng1 (fAc (fvar 6) fA0)) (fNm 8) (fTb (fCall F_is_open (fAc (fvar 5) (fAc (fTup (fAc (fvar 2) (fAc (fvar 3) fA0))) (fAc (fE2 modD (fE2 addD (fvar 4) (fvar 8)) (fvar 6)) fA0))))) (fE2 addD (fvar 4) (fvar 8)) [8]) (fC (.int 0))) (fNm 7))
    (fRt (fTup (fAc (fvar 7) (fAc (fE2 addD (fvar 7) (fCall F_takes_of (fAc (fvar 5) (fAc (fTup (fAc (fvar 2) (fAc (fvar 3) fA0))) fA0)))) fA0)))))))))
def F_set_off : FF := run 9 5 B_set_off
theorem ok_set_off {K : PySem.W.Frag} {mg : Str → Option Value} (fx : Fx K mg) : Ok K mg "set_off" ["floor", "gates", "one", "other", "tick"] 8 F_set_off := by
  have b_range := fx.free FH.fi_range (f := .free "range") rfl
  refine okD (N := N_set_off) (ps := ["floor", "gates", "one", "other", "tick"]) (B := B_set_off) fx 27 51 (x := "set_off") rfl rfl ⟨rfl, rfl, rfl, by decide +kernel, rfl, by decide +kernel, by decide +kernel⟩ (fun _ _ _ _ _ _ us hl => match us, hl with | [_, _, _, _, _], _ => rfl) fun P w base cdv A outer s H hr hgu => ?_
  have nd : N_set_off.Nodup := by decide +kernel
  have hu := hr.units
  exact (sss_cons (ss_expr (se_call1 (ok_check_ends fx) hr (by decide) hgu rfl run_len (sa_cons (se_var 0) (sa_cons (se_var 1) (sa_cons (se_var 2) (sa_cons (se_var 3) sa_nil))))))
    (sss_cons (ss_expr (se_call1 (ok_check_tick fx) hr (by decide) hgu rfl run_len (sa_cons (se_var 4) sa_nil)))
    (sss_cons (ss_if (st_cmp (op_notInX hu) (o2_inS _ true) (se_tup (sa_cons (se_var 2) (sa_cons (se_var 3) sa_nil))) (se_ixD hu (se_var 0) se_int) (by rfl)) (sss_one ss_never) sss_nil)
    (sss_cons (ss_asg (se_tup (sa_cons (se_call1 (ok_known_gates fx) hr (by decide) hgu rfl run_len (sa_cons (se_var 1) sa_nil)) (sa_cons (se_ixD hu (se_var 1) se_int) sa_nil))) (sg_tup rfl (sgs_cons (sg_name nd rfl (by first | exact .inl rfl | exact .inr rfl)) (sgs_cons (sg_name nd rfl (by first | exact .inl rfl | exact .inr rfl)) sgs_nil))))
    (sss_cons (ss_set nd rfl (by first | exact .inl rfl | exact .inr rfl) (se_ixD hu (se_lc (ow := [("more", 8)]) rfl nd (si_range1 rfl b_range (sa_cons (se_var 6) sa_nil)) (blkOk_by (by kernel_rfl)) (SB.one (fun _ _ _ _ _ => (sg_name nd rfl (by first | exact .inl rfl | exact .inr rfl))) (fun _ _ _ _ _ => (se_add (se_var 4) (se_var 8))) (fun _ _ _ _ _ => (st_val (se_call1 (ok_is_open fx) hr (by decide) hgu rfl run_len (sa_cons (se_var 5) (sa_cons (se_tup (sa_cons (se_var 2) (sa_cons (se_var 3) sa_nil))) (sa_cons (se_mod (se_add (se_var 4) (se_var 8)) (se_var 6)) sa_nil))))))) (by decide)) se_int))
    (sss_one (ss_ret (se_tup (sa_cons (se_var 7) (sa_cons (se_add (se_var 7) (se_call1 (ok_takes_of fx) hr (by decide) hgu rfl run_len (sa_cons (se_var 5) (sa_cons (se_tup (sa_cons (se_var 2) (sa_cons (se_var 3) sa_nil))) sa_nil)))) sa_nil))))))))))
def N_levels_by : List Str := ["floor", "gates", "goal", "known", "many", "ins", "found", "lots", "number", "cell", "phase", "rows", "one", "there", "more", "takes", "begun", "later"]
def B_levels_by : FS := (fSq (fPar3 3 4 5 (fAc (fCall F_known_gates (fAc (fvar 1) fA0)) (fAc (fE2 ixD (fvar 1) (fC (.int 0))) (fAc (fCall F_goes_into (fAc (fvar 0) fA0)) fA0))))
    (fSq (fAs (fCB dictTD (fAc (fLc (fRng1 (fAc (fvar 4) fA0)) (fNm 10) fYes (fTup (fAc (fTup (fAc (fvar 2) (fAc (fvar 10) fA0))) (fAc (fC (.int 0)) fA0))) [10]) fA0)) (fNm 6))
    (fSq (fAs (fTup (fAc (fDK1 (fC (.int 0)) (fCB sortD (fAc (fvar 6) fA0))) (fAc (fC (.int 0)) fA0))) (fGt 2 (fGc (fNm 7) (fGc (fNm 8) fG0))))
    (fSq (fWh (fOr (fTb (fE2 inD (fvar 8) (fvar 7))) (fTb (fCB anyD (fAc (fLkE 7 (fLc (fSeqI (fvar 7)) (fNm 17) fYes (fE2 gtD (fvar 17) (fvar 8)) [17])) fA0))))
    (fSq (fFor (fSeqI (fGet2 (fvar 7) (fvar 8) (fLst fA0))) (fGt 2 (fGc (fNm 9) (fGc (fNm 10) fG0)))
    (fIfS (fTb (fE2 eqD (fE2 ixD (fvar 6) (fTup (fAc (fvar 9) (fAc (fvar 10) fA0)))) (fvar 8))) (fSq (fAs (fLst (fAc (fTup (fAc (fTup (fAc (fvar 9) (fAc (fE2 modD (fE2 subD (fvar 10) (fC (.int 1))) (fvar 4)) fA0))) (fAc (fE2 addD (fvar 8) (fC (.int 1))) fA0))) fA0)) (fNm 11))
    (fSq (fFor (fSeqI (fE2 ixD (fvar 5) (fvar 9))) (fNm 12)
    (fSq (fAs (fCall F_takes_of (fAc (fvar 3) (fAc (fTup (fAc (fvar 12) (fAc (fvar 9) fA0))) fA0))) (fNm 15))
    (fSq (fAs (fE2 modD (fE2 subD (fvar 10) (fvar 15)) (fvar 4)) (fNm 16))
    (fEx (fM "list" extD (fvar 11) (fAc (fIf (fTb (fCall F_is_open (fAc (fvar 3) (fAc (fTup (fAc (fvar 12) (fAc (fvar 9) fA0))) (fAc (fvar 16) fA0))))) (fLst (fAc (fTup (fAc (fTup (fAc (fvar 12) (fAc (fvar 16) fA0))) (fAc (fE2 addD (fvar 8) (fvar 15)) fA0))) fA0)) (fLst fA0)) fA0))))))
    (fFor (fSeqI (fvar 11)) (fGt 2 (fGc (fNm 13) (fGc (fNm 14) fG0)))
    (fIfS (fOr (fTb (fE2 notInD (fvar 13) (fvar 6))) (fTb (fE2 ltD (fvar 14) (fE2 ixD (fvar 6) (fvar 13))))) (fSq (fPut (fvar 14) (fvar 6) (fvar 13))
    (fEx (fM "list" appD (fSetd (fvar 7) (fvar 14) (fLst fA0)) (fAc (fvar 13) fA0)))) fNx)))) fNx))
    (fAs (fE2 addD (fvar 8) (fC (.int 1))) (fNm 8))) 100000)
    (fRt (fvar 6))))))
def F_levels_by : FF := run 18 3 B_levels_by
theorem ok_levels_by {K : PySem.W.Frag} {mg : Str → Option Value} (fx : Fx K mg) : Ok K mg "levels_by" ["floor", "gates", "goal"] 2 F_levels_by := by
  have b_any := fx.free FH.fi_any (f := .free "any") rfl
  have b_dict := fx.free FH.fi_dict (f := .free "dict") rfl
  have b_range := fx.free FH.fi_range (f := .free "range") rfl
  have b_sorted := fx.free FH.fi_sorted (f := .free "sorted") rfl
  refine okD (N := N_levels_by) (ps := ["floor", "gates", "goal"]) (B := B_levels_by) fx 28 52 (x := "levels_by") rfl rfl ⟨rfl, rfl, rfl, by decide +kernel, rfl, by decide +kernel, by decide +kernel⟩ (fun _ _ _ _ _ _ us hl => match us, hl with | [_, _, _], _ => rfl) fun P w base cdv A outer s H hr hgu => ?_
  have nd : N_levels_by.Nodup := by decide +kernel
  have hu := hr.units
  exact (sss_cons (ss_par3 rfl nd rfl rfl rfl (by decide) (by decide) (by decide) rfl rfl rfl (sa_cons (se_call1 (ok_known_gates fx) hr (by decide) hgu rfl run_len (sa_cons (se_var 1) sa_nil)) (sa_cons (se_ixD hu (se_var 1) se_int) (sa_cons (se_call1 (ok_goes_into fx) hr (by decide) hgu rfl run_len (sa_cons (se_var 0) sa_nil)) sa_nil))) (by rfl))
    (sss_cons (ss_set nd rfl (by first | exact .inl rfl | exact .inr rfl) (se_callTy (call_dictT rfl hu) (oc_dictT _) rfl b_dict (by decide +kernel) (sa_cons (se_lc (ow := [("phase", 10)]) rfl nd (si_range1 rfl b_range (sa_cons (se_var 4) sa_nil)) (blkOk_by (by kernel_rfl)) (SB.no (fun _ _ _ _ _ => (sg_name nd rfl (by first | exact .inl rfl | exact .inr rfl))) (fun _ _ _ _ _ => (se_tup (sa_cons (se_tup (sa_cons (se_var 2) (sa_cons (se_var 10) sa_nil))) (sa_cons se_int sa_nil))))) (by decide)) sa_nil)))
    (sss_cons (ss_asg (se_tup (sa_cons (se_disp1 se_int (se_callB (call_sortX rfl hu) (oc_sort _) rfl b_sorted (by decide +kernel) (sa_cons (se_var 6) sa_nil))) (sa_cons se_int sa_nil))) (sg_tup rfl (sgs_cons (sg_name nd rfl (by first | exact .inl rfl | exact .inr rfl)) (sgs_cons (sg_name nd rfl (by first | exact .inl rfl | exact .inr rfl)) sgs_nil))))
    (sss_cons (ss_while 100000 PassesOwn.never (SW.st (sw_or (st_cmp (op_inX hu) (o2_inS _ false) (se_var 8) (se_var 7) (by rfl)) (sw_or1 (st_val (se_callB (cr_any rfl) (oc_any _) rfl b_any (by decide +kernel) (sa_cons (se_lock 7 (se_lc (ow := [("later", 17)]) rfl nd (si_seq (se_var 7)) (blkOk_by (by kernel_rfl)) (SB.no (fun _ _ _ _ _ => (sg_name nd rfl (by first | exact .inl rfl | exact .inr rfl))) (fun _ _ _ _ _ => (se_cmp op_gt o2_B0 (se_var 17) (se_var 8) (nomark _)))) (by decide))) sa_nil)))))) (sss_cons (ss_for PassesOwn.never rfl (si_seq (se_get2 hu (se_var 7) (se_var 8) (se_lst sa_nil))) (sg_tup rfl (sgs_cons (sg_name nd rfl (by first | exact .inl rfl | exact .inr rfl)) (sgs_cons (sg_name nd rfl (by first | exact .inl rfl | exact .inr rfl)) sgs_nil))) (sss_one (ss_if (st_cmp (op_eqX hu) (o2_data _ _) (se_ixD hu (se_var 6) (se_tup (sa_cons (se_var 9) (sa_cons (se_var 10) sa_nil)))) (se_var 8) (nomark _)) (sss_cons (ss_set nd rfl (by first | exact .inl rfl | exact .inr rfl) (se_lst (sa_cons (se_tup (sa_cons (se_tup (sa_cons (se_var 9) (sa_cons (se_mod (se_sub (se_var 10) se_int) (se_var 4)) sa_nil))) (sa_cons (se_add (se_var 8) se_int) sa_nil))) sa_nil)))
    (sss_cons (ss_for PassesOwn.never rfl (si_seq (se_ixD hu (se_var 5) (se_var 9))) (sg_name nd rfl (by first | exact .inl rfl | exact .inr rfl)) (sss_cons (ss_set nd rfl (by first | exact .inl rfl | exact .inr rfl) (se_call1 (ok_takes_of fx) hr (by decide) hgu rfl run_len (sa_cons (se_var 3) (sa_cons (se_tup (sa_cons (se_var 12) (sa_cons (se_var 9) sa_nil))) sa_nil))))
    (sss_cons (ss_set nd rfl (by first | exact .inl rfl | exact .inr rfl) (se_mod (se_sub (se_var 10) (se_var 15)) (se_var 4)))
    (sss_one (ss_expr (se_extend (se_var 11) (se_if (st_val (se_call1 (ok_is_open fx) hr (by decide) hgu rfl run_len (sa_cons (se_var 3) (sa_cons (se_tup (sa_cons (se_var 12) (sa_cons (se_var 9) sa_nil))) (sa_cons (se_var 16) sa_nil))))) (se_lst (sa_cons (se_tup (sa_cons (se_tup (sa_cons (se_var 12) (sa_cons (se_var 16) sa_nil))) (sa_cons (se_add (se_var 8) (se_var 15)) sa_nil))) sa_nil)) (se_lst sa_nil))))))))
    (sss_one (ss_for PassesOwn.never rfl (si_seq (se_var 11)) (sg_tup rfl (sgs_cons (sg_name nd rfl (by first | exact .inl rfl | exact .inr rfl)) (sgs_cons (sg_name nd rfl (by first | exact .inl rfl | exact .inr rfl)) sgs_nil))) (sss_one (ss_if (SW.st (sw_or (st_cmp (op_notInX hu) (o2_inS _ true) (se_var 13) (se_var 6) (by rfl)) (sw_or1 (st_cmp (op_ltX hu) (o2_lt _) (se_var 14) (se_ixD hu (se_var 6) (se_var 13)) (nomark _))))) (sss_cons (ss_put hu (se_var 6) (se_var 13) (se_var 14))
    (sss_one (ss_expr (se_append (se_setd (se_var 7) (se_var 14) (se_lst sa_nil)) (se_var 13))))) sss_nil)))))) sss_nil)))
    (sss_one (ss_set nd rfl (by first | exact .inl rfl | exact .inr rfl) (se_add (se_var 8) se_int)))))
    (sss_one (ss_ret (se_var 6)))))))
def N_trip_by : List Str := ["floor", "gates", "found", "cell", "tick", "goal", "known", "many", "outs", "trip", "here", "fine", "there", "takes", "left"]
def B_trip_by : FS := (fSq (fAs (fTup (fAc (fCall F_known_gates (fAc (fvar 1) fA0)) (fAc (fE2 ixD (fvar 1) (fC (.int 0))) (fAc (fCall F_goes_from (fAc (fvar 0) fA0)) (fAc (fLst fA0) fA0))))) (fGt 4 (fGc (fNm 6) (fGc (fNm 7) (fGc (fNm 8) (fGc (fNm 9) fG0))))))
    (fSq (fWh (fTb (fE2 neD (fvar 3) (fvar 5)))
    (fSq (fAs (fE2 ixD (fvar 2) (fTup (fAc (fvar 3) (fAc (fE2 modD (fvar 4) (fvar 7)) fA0)))) (fNm 10))
    (fSq (fAs (fLst fA0) (fNm 11))
    (fSq (fFor (fSeqI (fE2 ixD (fvar 8) (fvar 3))) (fNm 12)
    (fSq (fAs (fCall F_takes_of (fAc (fvar 6) (fAc (fTup (fAc (fvar 3) (fAc (fvar 12) fA0))) fA0))) (fNm 13))
    (fSq (fAs (fGet2 (fvar 2) (fTup (fAc (fvar 12) (fAc (fE2 modD (fE2 addD (fvar 4) (fvar 13)) (fvar 7)) fA0))) (fC .non)) (fNm 14))
    (fIfS (fAnd (fTb (fCall F_is_open (fAc (fvar 6) (fAc (fTup (fAc (fvar 3) (fAc (fvar 12) fA0))) (fAc (fE2 modD (fvar 4) (fvar 7)) fA0))))) (fAnd (fTb (fE2 isnD (fvar 14) (fC .non))) (fTb (fE2 eqD (fE2 addD (fvar 14) (fvar 13)) (fvar 10))))) (fEx (fM "list" appD (fvar 11) (fAc (fTup (fAc (fvar 12) (fAc (fvar 13) fA0))) fA0))) fNx))))
    (fIfS (fTb (fE2 neD (fvar 11) (fLst fA0))) (fSq (fEx (fM "list" appD (fvar 9) (fAc (fTup (fAc (fvar 4) (fAc (fvar 3) (fAc (fE2 ixD (fE2 ixD (fvar 11) (fC (.int 0))) (fC (.int 0))) fA0)))) fA0)))
    (fPar 3 4 (fAc (fE2 ixD (fE2 ixD (fvar 11) (fC (.int 0))) (fC (.int 0))) (fAc (fE2 addD (fvar 4) (fE2 ixD (fE2 ixD (fvar 11) (fC (.int 0))) (fC (.int 1)))) fA0)))) (fAs (fE2 addD (fvar 4) (fC (.int 1))) (fNm 4)))))) 100000)
    (fRt (fCB tupD (fAc (fvar 9) fA0)))))
def F_trip_by : FF := run 15 6 B_trip_by
theorem ok_trip_by {K : PySem.W.Frag} {mg : Str → Option Value} (fx : Fx K mg) : Ok K mg "trip_by" ["floor", "gates", "found", "cell", "tick", "goal"] 2 F_trip_by := by
  have b_tuple := fx.free FH.fi_tuple (f := .free "tuple") rfl
  refine okD (N := N_trip_by) (ps := ["floor", "gates", "found", "cell", "tick", "goal"]) (B := B_trip_by) fx 29 53 (x := "trip_by") rfl rfl ⟨rfl, rfl, rfl, by decide +kernel, rfl, by decide +kernel, by decide +kernel⟩ (fun _ _ _ _ _ _ us hl => match us, hl with | [_, _, _, _, _, _], _ => rfl) fun P w base cdv A outer s H hr hgu => ?_
  have nd : N_trip_by.Nodup := by decide +kernel
  have hu := hr.units
  exact (sss_cons (ss_asg (se_tup (sa_cons (se_call1 (ok_known_gates fx) hr (by decide) hgu rfl run_len (sa_cons (se_var 1) sa_nil)) (sa_cons (se_ixD hu (se_var 1) se_int) (sa_cons (se_call1 (ok_goes_from fx) hr (by decide) hgu rfl run_len (sa_cons (se_var 0) sa_nil)) (sa_cons (se_lst sa_nil) sa_nil))))) (sg_tup rfl (sgs_cons (sg_name nd rfl (by first | exact .inl rfl | exact .inr rfl)) (sgs_cons (sg_name nd rfl (by first | exact .inl rfl | exact .inr rfl)) (sgs_cons (sg_name nd rfl (by first | exact .inl rfl | exact .inr rfl)) (sgs_cons (sg_name nd rfl (by first | exact .inl rfl | exact .inr rfl)) sgs_nil))))))
    (sss_cons (ss_while 100000 PassesOwn.never (st_cmp (op_neX hu) (o2_data _ _) (se_var 3) (se_var 5) (nomark _)) (sss_cons (ss_set nd rfl (by first | exact .inl rfl | exact .inr rfl) (se_ixD hu (se_var 2) (se_tup (sa_cons (se_var 3) (sa_cons (se_mod (se_var 4) (se_var 7)) sa_nil)))))
    (sss_cons (ss_set nd rfl (by first | exact .inl rfl | exact .inr rfl) (se_lst sa_nil))
    (sss_cons (ss_for PassesOwn.never rfl (si_seq (se_ixD hu (se_var 8) (se_var 3))) (sg_name nd rfl (by first | exact .inl rfl | exact .inr rfl)) (sss_cons (ss_set nd rfl (by first | exact .inl rfl | exact .inr rfl) (se_call1 (ok_takes_of fx) hr (by decide) hgu rfl run_len (sa_cons (se_var 6) (sa_cons (se_tup (sa_cons (se_var 3) (sa_cons (se_var 12) sa_nil))) sa_nil))))
    (sss_cons (ss_set nd rfl (by first | exact .inl rfl | exact .inr rfl) (se_get2 hu (se_var 2) (se_tup (sa_cons (se_var 12) (sa_cons (se_mod (se_add (se_var 4) (se_var 13)) (se_var 7)) sa_nil))) se_non))
    (sss_one (ss_if (SW.st (sw_and (st_val (se_call1 (ok_is_open fx) hr (by decide) hgu rfl run_len (sa_cons (se_var 6) (sa_cons (se_tup (sa_cons (se_var 3) (sa_cons (se_var 12) sa_nil))) (sa_cons (se_mod (se_var 4) (se_var 7)) sa_nil))))) (sw_and (st_cmp (op_notN.or op_isnot_bl) o2_isn (se_var 14) se_non (nomark _)) (sw_and1 (st_cmp (op_eqX hu) (o2_data _ _) (se_add (se_var 14) (se_var 13)) (se_var 10) (nomark _)))))) (sss_one (ss_expr (se_append (se_var 11) (se_tup (sa_cons (se_var 12) (sa_cons (se_var 13) sa_nil)))))) sss_nil)))))
    (sss_one (ss_if (st_cmp (op_neX hu) (o2_data _ _) (se_var 11) (se_lst sa_nil) (nomark _)) (sss_cons (ss_expr (se_append (se_var 9) (se_tup (sa_cons (se_var 4) (sa_cons (se_var 3) (sa_cons (se_ixD hu (se_ixD hu (se_var 11) se_int) se_int) sa_nil))))))
    (sss_one (ss_par rfl nd rfl rfl (by decide) rfl rfl (sa_cons (se_ixD hu (se_ixD hu (se_var 11) se_int) se_int) (sa_cons (se_add (se_var 4) (se_ixD hu (se_ixD hu (se_var 11) se_int) se_int)) sa_nil)) (by rfl)))) (sss_one (ss_set nd rfl (by first | exact .inl rfl | exact .inr rfl) (se_add (se_var 4) se_int)))))))))
    (sss_one (ss_ret (se_callTy call_tupX (oc_tup _) rfl b_tuple (by decide +kernel) (sa_cons (se_var 9) sa_nil))))))
def N_gates_told : List Str := ["floor", "gates", "one", "other", "tick", "found", "many", "most", "levels", "trip", "cell", "phase"]
def B_gates_told : FS := (fSq (fEx (fCall F_check_ends (fAc (fvar 0) (fAc (fvar 1) (fAc (fvar 2) (fAc (fvar 3) fA0))))))
    (fSq (fEx (fCall F_check_tick (fAc (fvar 4) fA0)))
    (fSq (fAs (fTup (fAc (fCall F_levels_by (fAc (fvar 0) (fAc (fvar 1) (fAc (fvar 3) fA0)))) (fAc (fE2 ixD (fvar 1) (fC (.int 0))) fA0))) (fGt 2 (fGc (fNm 5) (fGc (fNm 6) fG0))))
    (fSq (fIfS (fTb (fE2 notInD (fTup (fAc (fvar 2) (fAc (fE2 modD (fvar 4) (fvar 6)) fA0))) (fvar 5))) (fRt (fTup (fAc (fC (.str "never")) (fAc (fCall F_lot_from (fAc (fvar 0) (fAc (fvar 2) fA0))) fA0)))) fNx)
    (fSq (fAs (fCB maxLD (fAc (fLVals (fvar 5)) fA0)) (fNm 7))
    (fSq (fAs (fLc (fSeqI (fE2 ixD (fvar 0) (fC (.int 0)))) (fNm 10) fYes (fCB tupD (fAc (fLc (fRng1 (fAc (fvar 6) fA0)) (fNm 11) fYes (fGet2 (fvar 5) (fTup (fAc (fvar 10) (fAc (fvar 11) fA0))) (fvar 7)) [11]) fA0)) [10]) (fNm 8))
    (fSq (fAs (fCall F_trip_by (fAc (fvar 0) (fAc (fvar 1) (fAc (fvar 5) (fAc (fvar 2) (fAc (fvar 4) (fAc (fvar 3) fA0))))))) (fNm 9))
    (fRt (fTup (fAc (fC (.str "comes")) (fAc (fE2 ixD (fvar 5) (fTup (fAc (fvar 2) (fAc (fE2 modD (fvar 4) (fvar 6)) fA0)))) (fAc (fvar 9) (fAc (fCB tupD (fAc (fvar 8) fA0)) fA0)))))))))))))
def F_gates_told : FF := run 12 5 B_gates_told
theorem ok_gates_told {K : PySem.W.Frag} {mg : Str → Option Value} (fx : Fx K mg) : Ok K mg "gates_told" ["floor", "gates", "one", "other", "tick"] 8 F_gates_told := by
  have b_list := fx.free FH.fi_list (f := .free "list") rfl
  have b_max := fx.free FH.fi_max (f := .free "max") rfl
  have b_range := fx.free FH.fi_range (f := .free "range") rfl
  have b_tuple := fx.free FH.fi_tuple (f := .free "tuple") rfl
  obtain ⟨t_COMES, c_COMES⟩ := fx.str FH.fi_COMES (x := "COMES") (z := "comes") rfl
  obtain ⟨t_NEVER, c_NEVER⟩ := fx.str FH.fi_NEVER (x := "NEVER") (z := "never") rfl
  refine okD (N := N_gates_told) (ps := ["floor", "gates", "one", "other", "tick"]) (B := B_gates_told) fx 30 54 (x := "gates_told") rfl rfl ⟨rfl, rfl, rfl, by decide +kernel, rfl, by decide +kernel, by decide +kernel⟩ (fun _ _ _ _ _ _ us hl => match us, hl with | [_, _, _, _, _], _ => rfl) fun P w base cdv A outer s H hr hgu => ?_
  have nd : N_gates_told.Nodup := by decide +kernel
  have hu := hr.units
  exact (sss_cons (ss_expr (se_call1 (ok_check_ends fx) hr (by decide) hgu rfl run_len (sa_cons (se_var 0) (sa_cons (se_var 1) (sa_cons (se_var 2) (sa_cons (se_var 3) sa_nil))))))
    (sss_cons (ss_expr (se_call1 (ok_check_tick fx) hr (by decide) hgu rfl run_len (sa_cons (se_var 4) sa_nil)))
    (sss_cons (ss_asg (se_tup (sa_cons (se_call1 (ok_levels_by fx) hr (by decide) hgu rfl run_len (sa_cons (se_var 0) (sa_cons (se_var 1) (sa_cons (se_var 3) sa_nil)))) (sa_cons (se_ixD hu (se_var 1) se_int) sa_nil))) (sg_tup rfl (sgs_cons (sg_name nd rfl (by first | exact .inl rfl | exact .inr rfl)) (sgs_cons (sg_name nd rfl (by first | exact .inl rfl | exact .inr rfl)) sgs_nil))))
    (sss_cons (ss_if (st_cmp (op_notInX hu) (o2_inS _ true) (se_tup (sa_cons (se_var 2) (sa_cons (se_mod (se_var 4) (se_var 6)) sa_nil))) (se_var 5) (by rfl)) (sss_one (ss_ret (se_tup (sa_cons (se_globS rfl c_NEVER) (sa_cons (se_call1 (ok_lot_from fx) hr (by decide) hgu rfl run_len (sa_cons (se_var 0) (sa_cons (se_var 2) sa_nil))) sa_nil))))) sss_nil)
    (sss_cons (ss_set nd rfl (by first | exact .inl rfl | exact .inr rfl) (se_callB (call_maxX rfl hu) (oc_max _) rfl b_max (by decide +kernel) (sa_cons (se_lVals rfl rfl b_list (se_var 5)) sa_nil)))
    (sss_cons (by first | exact (ss_set nd rfl (by first | exact .inl rfl | exact .inr rfl) (se_lc (ow := [("cell", 10)]) rfl nd (si_seq (se_ixD hu (se_var 0) se_int)) (blkOk_by (by kernel_rfl)) (SB.no (fun _ _ _ _ _ => (sg_name nd rfl (by first | exact .inl rfl | exact .inr rfl))) (fun _ _ _ _ _ => (se_callTy call_tupX (oc_tup _) rfl b_tuple (by decide +kernel) (sa_cons (se_lc (ow := [("phase", 11)]) rfl nd (si_range1 rfl b_range (sa_cons (se_var 6) sa_nil)) (blkOk_by (by kernel_rfl)) (SB.no (fun _ _ _ _ _ => (sg_name nd rfl (by first | exact .inl rfl | exact .inr rfl))) (fun _ _ _ _ _ => (se_get2 hu (se_var 5) (se_tup (sa_cons (se_var 10) (sa_cons (se_var 11) sa_nil))) (se_var 7)))) (by decide)) sa_nil)))) (by decide))) | exact (ss_setLc (ow := [("cell", 10)]) rfl nd rfl rfl rfl (si_seq (se_ixD hu (se_var 0) se_int)) (blkOk_by (by kernel_rfl)) (SB.no (fun _ _ _ _ _ => (sg_name nd rfl (by first | exact .inl rfl | exact .inr rfl))) (fun _ _ _ _ _ => (se_callTy call_tupX (oc_tup _) rfl b_tuple (by decide +kernel) (sa_cons (se_lc (ow := [("phase", 11)]) rfl nd (si_range1 rfl b_range (sa_cons (se_var 6) sa_nil)) (blkOk_by (by kernel_rfl)) (SB.no (fun _ _ _ _ _ => (sg_name nd rfl (by first | exact .inl rfl | exact .inr rfl))) (fun _ _ _ _ _ => (se_get2 hu (se_var 5) (se_tup (sa_cons (se_var 10) (sa_cons (se_var 11) sa_nil))) (se_var 7)))) (by decide)) sa_nil)))) (by decide)))
    (sss_cons (ss_set nd rfl (by first | exact .inl rfl | exact .inr rfl) (se_call1 (ok_trip_by fx) hr (by decide) hgu rfl run_len (sa_cons (se_var 0) (sa_cons (se_var 1) (sa_cons (se_var 5) (sa_cons (se_var 2) (sa_cons (se_var 4) (sa_cons (se_var 3) sa_nil))))))))
    (sss_one (ss_ret (se_tup (sa_cons (se_globS rfl c_COMES) (sa_cons (se_ixD hu (se_var 5) (se_tup (sa_cons (se_var 2) (sa_cons (se_mod (se_var 4) (se_var 6)) sa_nil)))) (sa_cons (se_var 9) (sa_cons (se_callTy call_tupX (oc_tup _) rfl b_tuple (by decide +kernel) (sa_cons (se_var 8) sa_nil)) sa_nil))))))))))))))
def N_are_levels : List Str := ["floor", "gates", "goal", "value", "many", "rows", "known", "cell", "row", "way", "takes", "phase", "level"]
def B_are_levels : FS := (fSq (fAs (fE2 ixD (fvar 1) (fC (.int 0))) (fNm 4))
    (fSq (fIfS (fNot (fTb (fCall F_is_tuple_of (fAc (fvar 3) (fAc (fCB lenD (fAc (fE2 ixD (fvar 0) (fC (.int 0))) fA0)) fA0))))) (fRt (fC (.bl false))) fNx)
    (fSq (fIfS (fNot (fTb (fCB allD (fAc (fLc (fSeqI (fvar 3)) (fNm 8) fYes (fAndV (fCall F_are_between (fAc (fvar 8) (fAc (fC (.int 0)) (fAc (fC (.int 100000)) fA0)))) (fE2 eqD (fCB lenD (fAc (fvar 8) fA0)) (fvar 4))) [8]) fA0)))) (fRt (fC (.bl false))) fNx)
    (fSq (fAs (fTup (fAc (fCB dictKD (fAc (fLZip (fAc (fE2 ixD (fvar 0) (fC (.int 0))) (fAc (fvar 3) fA0))) fA0)) (fAc (fCall F_known_gates (fAc (fvar 1) fA0)) fA0))) (fGt 2 (fGc (fNm 5) (fGc (fNm 6) fG0))))
    (fSq (fIfS (fTb (fCB anyD (fAc (fLc (fSeqI (fE2 ixD (fvar 5) (fvar 2))) (fNm 12) fYes (fE2 gtD (fvar 12) (fC (.int 0))) [12]) fA0))) (fRt (fC (.bl false))) fNx)
    (fSq (fLk 5 (fFor (fItems (fvar 5)) (fGt 2 (fGc (fNm 7) (fGc (fNm 8) fG0)))
    (fIfS (fTb (fCB anyD (fAc (fLc (fRng1 (fAc (fvar 4) fA0)) (fNm 11) fYes (fE2 gtD (fE2 ixD (fvar 8) (fvar 11)) (fE2 addD (fE2 ixD (fvar 8) (fE2 modD (fE2 addD (fvar 11) (fC (.int 1))) (fvar 4))) (fC (.int 1)))) [11]) fA0))) (fRt (fC (.bl false))) fNx)))
    (fSq (fFor (fSeqI (fE2 ixD (fvar 0) (fC (.int 1)))) (fNm 9)
    (fSq (fAs (fCall F_takes_of (fAc (fvar 6) (fAc (fvar 9) fA0))) (fNm 10))
    (fFor (fSeqI (fLc (fRng1 (fAc (fvar 4) fA0)) (fNm 11) (fTb (fCall F_is_open (fAc (fvar 6) (fAc (fvar 9) (fAc (fvar 11) fA0))))) (fvar 11) [11])) (fNm 11)
    (fIfS (fTb (fE2 gtD (fE2 ixD (fE2 ixD (fvar 5) (fE2 ixD (fvar 9) (fC (.int 0)))) (fvar 11)) (fE2 addD (fE2 ixD (fE2 ixD (fvar 5) (fE2 ixD (fvar 9) (fC (.int 1)))) (fE2 modD (fE2 addD (fvar 11) (fvar 10)) (fvar 4))) (fvar 10)))) (fRt (fC (.bl false))) fNx))))
    (fRt (fC (.bl true))))))))))
def F_are_levels : FF := run 13 4 B_are_levels
theorem ok_are_levels {K : PySem.W.Frag} {mg : Str → Option Value} (fx : Fx K mg) : Ok K mg "are_levels" ["floor", "gates", "goal", "value"] 4 F_are_levels := by
  have b_all := fx.free FH.fi_all (f := .free "all") rfl
  have b_any := fx.free FH.fi_any (f := .free "any") rfl
  have b_dict := fx.free FH.fi_dict (f := .free "dict") rfl
  have b_len := fx.free FH.fi_len (f := .free "len") rfl
  have b_list := fx.free FH.fi_list (f := .free "list") rfl
  have b_range := fx.free FH.fi_range (f := .free "range") rfl
  have b_zip := fx.free FH.fi_zip (f := .free "zip") rfl
  obtain ⟨t_MOST_LEVEL, c_MOST_LEVEL⟩ := fx.int FH.fi_MOST_LEVEL (x := "MOST_LEVEL") (n := 100000) rfl
  refine okD (N := N_are_levels) (ps := ["floor", "gates", "goal", "value"]) (B := B_are_levels) fx 31 55 (x := "are_levels") rfl rfl ⟨rfl, rfl, rfl, by decide +kernel, rfl, by decide +kernel, by decide +kernel⟩ (fun _ _ _ _ _ _ us hl => match us, hl with | [_, _, _, _], _ => rfl) fun P w base cdv A outer s H hr hgu => ?_
  have nd : N_are_levels.Nodup := by decide +kernel
  have hu := hr.units
  exact (sss_cons (ss_set nd rfl (by first | exact .inl rfl | exact .inr rfl) (se_ixD hu (se_var 1) se_int))
    (sss_cons (ss_if (st_not (st_val (se_call1 (ok_is_tuple_of fx) hr (by decide) hgu rfl run_len (sa_cons (se_var 3) (sa_cons (se_callB call_lenX (oc_len _) rfl b_len (by decide +kernel) (sa_cons (se_ixD hu (se_var 0) se_int) sa_nil)) sa_nil))))) (sss_one (ss_ret se_bl)) sss_nil)
    (sss_cons (ss_if (st_not (st_val (se_callB (cr_all rfl) (oc_all _) rfl b_all (by decide +kernel) (sa_cons (se_lc (ow := [("row", 8)]) rfl nd (si_seq (se_var 3)) (blkOk_by (by kernel_rfl)) (SB.no (fun _ _ _ _ _ => (sg_name nd rfl (by first | exact .inl rfl | exact .inr rfl))) (fun _ _ _ _ _ => (se_and (se_call1 (ok_are_between fx) hr (by decide) hgu rfl run_len (sa_cons (se_var 8) (sa_cons se_int (sa_cons (se_globI rfl c_MOST_LEVEL) sa_nil)))) (se_one (se_cmp (op_eqX hu) (o2_data _ _) (se_callB call_lenX (oc_len _) rfl b_len (by decide +kernel) (sa_cons (se_var 8) sa_nil)) (se_var 4) (nomark _)))))) (by decide)) sa_nil)))) (sss_one (ss_ret se_bl)) sss_nil)
    (sss_cons (ss_asg (se_tup (sa_cons (se_callTy (call_dictX rfl) (oc_dictK _) rfl b_dict (by decide +kernel) (sa_cons (se_lstZip rfl rfl b_list rfl b_zip (sa_cons (se_ixD hu (se_var 0) se_int) (sa_cons (se_var 3) sa_nil))) sa_nil)) (sa_cons (se_call1 (ok_known_gates fx) hr (by decide) hgu rfl run_len (sa_cons (se_var 1) sa_nil)) sa_nil))) (sg_tup rfl (sgs_cons (sg_name nd rfl (by first | exact .inl rfl | exact .inr rfl)) (sgs_cons (sg_name nd rfl (by first | exact .inl rfl | exact .inr rfl)) sgs_nil))))
    (sss_cons (ss_if (st_val (se_callB (cr_any rfl) (oc_any _) rfl b_any (by decide +kernel) (sa_cons (se_lc (ow := [("level", 12)]) rfl nd (si_seq (se_ixD hu (se_var 5) (se_var 2))) (blkOk_by (by kernel_rfl)) (SB.no (fun _ _ _ _ _ => (sg_name nd rfl (by first | exact .inl rfl | exact .inr rfl))) (fun _ _ _ _ _ => (se_cmp op_gt o2_B0 (se_var 12) se_int (nomark _)))) (by decide)) sa_nil))) (sss_one (ss_ret se_bl)) sss_nil)
    (sss_cons (ss_lock 5 (ss_for PassesOwn.never rfl (si_items (se_var 5)) (sg_tup rfl (sgs_cons (sg_name nd rfl (by first | exact .inl rfl | exact .inr rfl)) (sgs_cons (sg_name nd rfl (by first | exact .inl rfl | exact .inr rfl)) sgs_nil))) (sss_one (ss_if (st_val (se_callB (cr_any rfl) (oc_any _) rfl b_any (by decide +kernel) (sa_cons (se_lc (ow := [("phase", 11)]) rfl nd (si_range1 rfl b_range (sa_cons (se_var 4) sa_nil)) (blkOk_by (by kernel_rfl)) (SB.no (fun _ _ _ _ _ => (sg_name nd rfl (by first | exact .inl rfl | exact .inr rfl))) (fun _ _ _ _ _ => (se_cmp op_gt o2_B0 (se_ixD hu (se_var 8) (se_var 11)) (se_add (se_ixD hu (se_var 8) (se_mod (se_add (se_var 11) se_int) (se_var 4))) se_int) (nomark _)))) (by decide)) sa_nil))) (sss_one (ss_ret se_bl)) sss_nil))))
    (sss_cons (ss_for PassesOwn.never rfl (si_seq (se_ixD hu (se_var 0) se_int)) (sg_name nd rfl (by first | exact .inl rfl | exact .inr rfl)) (sss_cons (ss_set nd rfl (by first | exact .inl rfl | exact .inr rfl) (se_call1 (ok_takes_of fx) hr (by decide) hgu rfl run_len (sa_cons (se_var 6) (sa_cons (se_var 9) sa_nil))))
    (sss_one (ss_for PassesOwn.never rfl (si_seq (se_lc (ow := [("phase", 11)]) rfl nd (si_range1 rfl b_range (sa_cons (se_var 4) sa_nil)) (blkOk_by (by kernel_rfl)) (SB.one (fun _ _ _ _ _ => (sg_name nd rfl (by first | exact .inl rfl | exact .inr rfl))) (fun _ _ _ _ _ => (se_var 11)) (fun _ _ _ _ _ => (st_val (se_call1 (ok_is_open fx) hr (by decide) hgu rfl run_len (sa_cons (se_var 6) (sa_cons (se_var 9) (sa_cons (se_var 11) sa_nil))))))) (by decide))) (sg_name nd rfl (by first | exact .inl rfl | exact .inr rfl)) (sss_one (ss_if (st_cmp op_gt o2_B0 (se_ixD hu (se_ixD hu (se_var 5) (se_ixD hu (se_var 9) se_int)) (se_var 11)) (se_add (se_ixD hu (se_ixD hu (se_var 5) (se_ixD hu (se_var 9) se_int)) (se_mod (se_add (se_var 11) (se_var 10)) (se_var 4))) (se_var 10)) (nomark _)) (sss_one (ss_ret se_bl)) sss_nil))))))
    (sss_one (ss_ret se_bl)))))))))
def N_trip_end : List Str := ["floor", "gates", "one", "tick", "value", "known", "cell", "begun", "here", "there", "row"]
def B_trip_end : FS := (fSq (fIfS (fOr (fNot (fTb (fCB isiD (fAc (fvar 4) (fAc (fC (.ty "tuple")) fA0))))) (fNot (fTb (fCB allD (fAc (fLc (fSeqI (fvar 4)) (fNm 10) fYes (fCall F_is_tuple_of (fAc (fvar 10) (fAc (fC (.int 3)) fA0))) [10]) fA0))))) (fRt (fC .non)) fNx)
    (fSq (fPar 5 6 (fAc (fCall F_known_gates (fAc (fvar 1) fA0)) (fAc (fvar 2) fA0)))
    (fSq (fFor (fSeqI (fvar 4)) (fGt 3 (fGc (fNm 7) (fGc (fNm 8) (fGc (fNm 9) fG0))))
    (fSq (fIfS (fOr (fNot (fTb (fCall F_is_integer (fAc (fvar 7) fA0)))) (fOr (fTb (fE2 ltD (fvar 7) (fvar 3))) (fOr (fNot (fTb (fCall F_is_pair_of_names (fAc (fTup (fAc (fvar 8) (fAc (fvar 9) fA0))) fA0)))) (fTb (fE2 neD (fvar 8) (fvar 6)))))) (fRt (fC .non)) fNx)
    (fSq (fIfS (fOr (fTb (fE2 notInD (fTup (fAc (fvar 8) (fAc (fvar 9) fA0))) (fE2 ixD (fvar 0) (fC (.int 1))))) (fNot (fTb (fCall F_is_open (fAc (fvar 5) (fAc (fTup (fAc (fvar 8) (fAc (fvar 9) fA0))) (fAc (fE2 modD (fvar 7) (fE2 ixD (fvar 1) (fC (.int 0)))) fA0))))))) (fRt (fC .non)) fNx)
    (fPar 6 3 (fAc (fvar 9) (fAc (fE2 addD (fvar 7) (fCall F_takes_of (fAc (fvar 5) (fAc (fTup (fAc (fvar 8) (fAc (fvar 9) fA0))) fA0)))) fA0))))))
    (fRt (fTup (fAc (fvar 6) (fAc (fvar 3) fA0)))))))
def F_trip_end : FF := run 11 5 B_trip_end
theorem ok_trip_end {K : PySem.W.Frag} {mg : Str → Option Value} (fx : Fx K mg) : Ok K mg "trip_end" ["floor", "gates", "one", "tick", "value"] 4 F_trip_end := by
  have b_all := fx.free FH.fi_all (f := .free "all") rfl
  have b_isinstance := fx.free FH.fi_isinstance (f := .free "isinstance") rfl
  have b_tuple := fx.free FH.fi_tuple (f := .free "tuple") rfl
  obtain ⟨t_THREE, c_THREE⟩ := fx.int FH.fi_THREE (x := "THREE") (n := 3) rfl
  refine okD (N := N_trip_end) (ps := ["floor", "gates", "one", "tick", "value"]) (B := B_trip_end) fx 32 56 (x := "trip_end") rfl rfl ⟨rfl, rfl, rfl, by decide +kernel, rfl, by decide +kernel, by decide +kernel⟩ (fun _ _ _ _ _ _ us hl => match us, hl with | [_, _, _, _, _], _ => rfl) fun P w base cdv A outer s H hr hgu => ?_
  have nd : N_trip_end.Nodup := by decide +kernel
  have hu := hr.units
  exact (sss_cons (ss_if (SW.st (sw_or (st_not (st_val (se_callB call_isi (oc_isi _) rfl b_isinstance (by decide +kernel) (sa_cons (se_var 4) (sa_cons (se_bltn rfl b_tuple (by decide +kernel)) sa_nil))))) (sw_or1 (st_not (st_val (se_callB (cr_all rfl) (oc_all _) rfl b_all (by decide +kernel) (sa_cons (se_lc (ow := [("row", 10)]) rfl nd (si_seq (se_var 4)) (blkOk_by (by kernel_rfl)) (SB.no (fun _ _ _ _ _ => (sg_name nd rfl (by first | exact .inl rfl | exact .inr rfl))) (fun _ _ _ _ _ => (se_call1 (ok_is_tuple_of fx) hr (by decide) hgu rfl run_len (sa_cons (se_var 10) (sa_cons (se_globI rfl c_THREE) sa_nil))))) (by decide)) sa_nil))))))) (sss_one (ss_ret se_non)) sss_nil)
    (sss_cons (ss_par rfl nd rfl rfl (by decide) rfl rfl (sa_cons (se_call1 (ok_known_gates fx) hr (by decide) hgu rfl run_len (sa_cons (se_var 1) sa_nil)) (sa_cons (se_var 2) sa_nil)) (by rfl))
    (sss_cons (ss_for PassesOwn.never rfl (si_seq (se_var 4)) (sg_tup rfl (sgs_cons (sg_name nd rfl (by first | exact .inl rfl | exact .inr rfl)) (sgs_cons (sg_name nd rfl (by first | exact .inl rfl | exact .inr rfl)) (sgs_cons (sg_name nd rfl (by first | exact .inl rfl | exact .inr rfl)) sgs_nil)))) (sss_cons (ss_if (SW.st (sw_or (st_not (st_val (se_call1 (ok_is_integer fx) hr (by decide) hgu rfl run_len (sa_cons (se_var 7) sa_nil)))) (sw_or (st_cmp (op_ltX hu) (o2_lt _) (se_var 7) (se_var 3) (nomark _)) (sw_or (st_not (st_val (se_call1 (ok_is_pair_of_names fx) hr (by decide) hgu rfl run_len (sa_cons (se_tup (sa_cons (se_var 8) (sa_cons (se_var 9) sa_nil))) sa_nil)))) (sw_or1 (st_cmp (op_neX hu) (o2_data _ _) (se_var 8) (se_var 6) (nomark _))))))) (sss_one (ss_ret se_non)) sss_nil)
    (sss_cons (ss_if (SW.st (sw_or (st_cmp (op_notInX hu) (o2_inS _ true) (se_tup (sa_cons (se_var 8) (sa_cons (se_var 9) sa_nil))) (se_ixD hu (se_var 0) se_int) (by rfl)) (sw_or1 (st_not (st_val (se_call1 (ok_is_open fx) hr (by decide) hgu rfl run_len (sa_cons (se_var 5) (sa_cons (se_tup (sa_cons (se_var 8) (sa_cons (se_var 9) sa_nil))) (sa_cons (se_mod (se_var 7) (se_ixD hu (se_var 1) se_int)) sa_nil))))))))) (sss_one (ss_ret se_non)) sss_nil)
    (sss_one (ss_par rfl nd rfl rfl (by decide) rfl rfl (sa_cons (se_var 9) (sa_cons (se_add (se_var 7) (se_call1 (ok_takes_of fx) hr (by decide) hgu rfl run_len (sa_cons (se_var 5) (sa_cons (se_tup (sa_cons (se_var 8) (sa_cons (se_var 9) sa_nil))) sa_nil)))) sa_nil)) (by rfl))))))
    (sss_one (ss_ret (se_tup (sa_cons (se_var 6) (sa_cons (se_var 3) sa_nil))))))))
def N_trip_told : List Str := ["floor", "gates", "one", "tick", "trip"]
def B_trip_told : FS := (fSq (fEx (fCall F_check_ends (fAc (fvar 0) (fAc (fvar 1) (fAc (fvar 2) (fAc (fvar 2) fA0))))))
    (fSq (fEx (fCall F_check_tick (fAc (fvar 3) fA0)))
    (fRt (fCall F_trip_end (fAc (fvar 0) (fAc (fvar 1) (fAc (fvar 2) (fAc (fvar 3) (fAc (fvar 4) fA0)))))))))
def F_trip_told : FF := run 5 5 B_trip_told
theorem ok_trip_told {K : PySem.W.Frag} {mg : Str → Option Value} (fx : Fx K mg) : Ok K mg "trip_told" ["floor", "gates", "one", "tick", "trip"] 8 F_trip_told := by
  refine okD (N := N_trip_told) (ps := ["floor", "gates", "one", "tick", "trip"]) (B := B_trip_told) fx 33 57 (x := "trip_told") rfl rfl ⟨rfl, rfl, rfl, by decide +kernel, rfl, by decide +kernel, by decide +kernel⟩ (fun _ _ _ _ _ _ us hl => match us, hl with | [_, _, _, _, _], _ => rfl) fun P w base cdv A outer s H hr hgu => ?_
  have nd : N_trip_told.Nodup := by decide +kernel
  have hu := hr.units
  exact (sss_cons (ss_expr (se_call1 (ok_check_ends fx) hr (by decide) hgu rfl run_len (sa_cons (se_var 0) (sa_cons (se_var 1) (sa_cons (se_var 2) (sa_cons (se_var 2) sa_nil))))))
    (sss_cons (ss_expr (se_call1 (ok_check_tick fx) hr (by decide) hgu rfl run_len (sa_cons (se_var 3) sa_nil)))
    (sss_one (ss_ret (se_call1 (ok_trip_end fx) hr (by decide) hgu rfl run_len (sa_cons (se_var 0) (sa_cons (se_var 1) (sa_cons (se_var 2) (sa_cons (se_var 3) (sa_cons (se_var 4) sa_nil))))))))))
def N_shows_gates : List Str := ["floor", "gates", "one", "other", "tick", "value"]
def B_shows_gates : FS := (fSq (fEx (fCall F_check_ends (fAc (fvar 0) (fAc (fvar 1) (fAc (fvar 2) (fAc (fvar 3) fA0))))))
    (fSq (fEx (fCall F_check_tick (fAc (fvar 4) fA0)))
    (fSq (fIfS (fOr (fNot (fTb (fCB isiD (fAc (fvar 5) (fAc (fC (.ty "tuple")) fA0))))) (fOr (fTb (fE2 notInD (fCB lenD (fAc (fvar 5) fA0)) (fTup (fAc (fC (.int 2)) (fAc (fC (.int 4)) fA0))))) (fNot (fTb (fCB isiD (fAc (fE2 ixD (fvar 5) (fC (.int 0))) (fAc (fC (.ty "str")) fA0))))))) (fRt (fC (.bl false))) fNx)
    (fSq (fIfS (fTb (fE2 eqD (fCB lenD (fAc (fvar 5) fA0)) (fC (.int 2)))) (fRt (fAndV (fE2 eqD (fE2 ixD (fvar 5) (fC (.int 0))) (fC (.str "never"))) (fCall F_is_shut_lot (fAc (fvar 0) (fAc (fvar 2) (fAc (fvar 3) (fAc (fE2 ixD (fvar 5) (fC (.int 1))) fA0))))))) fNx)
    (fSq (fIfS (fOr (fTb (fE2 neD (fE2 ixD (fvar 5) (fC (.int 0))) (fC (.str "comes")))) (fOr (fNot (fTb (fCall F_is_between (fAc (fE2 ixD (fvar 5) (fC (.int 1))) (fAc (fC (.int 0)) (fAc (fC (.int 100000)) fA0)))))) (fNot (fTb (fCall F_are_levels (fAc (fvar 0) (fAc (fvar 1) (fAc (fvar 3) (fAc (fE2 ixD (fvar 5) (fE1 negD (fC (.int 1)))) fA0))))))))) (fRt (fC (.bl false))) fNx)
    (fSq (fIfS (fTb (fE2 neD (fE2 ixD (fE2 ixD (fE2 ixD (fvar 5) (fE1 negD (fC (.int 1)))) (fM "tuple" idxTD (fE2 ixD (fvar 0) (fC (.int 0))) (fAc (fvar 2) fA0))) (fE2 modD (fvar 4) (fE2 ixD (fvar 1) (fC (.int 0))))) (fE2 ixD (fvar 5) (fC (.int 1))))) (fRt (fC (.bl false))) fNx)
    (fRt (fE2 eqD (fCall F_trip_end (fAc (fvar 0) (fAc (fvar 1) (fAc (fvar 2) (fAc (fvar 4) (fAc (fE2 ixD (fvar 5) (fC (.int 2))) fA0)))))) (fTup (fAc (fvar 3) (fAc (fE2 addD (fvar 4) (fE2 ixD (fvar 5) (fC (.int 1)))) fA0)))))))))))
def F_shows_gates : FF := run 6 6 B_shows_gates
theorem ok_shows_gates {K : PySem.W.Frag} {mg : Str → Option Value} (fx : Fx K mg) : Ok K mg "shows_gates" ["floor", "gates", "one", "other", "tick", "value"] 8 F_shows_gates := by
  have b_isinstance := fx.free FH.fi_isinstance (f := .free "isinstance") rfl
  have b_len := fx.free FH.fi_len (f := .free "len") rfl
  have b_str := fx.free FH.fi_str (f := .free "str") rfl
  have b_tuple := fx.free FH.fi_tuple (f := .free "tuple") rfl
  obtain ⟨t_COMES, c_COMES⟩ := fx.str FH.fi_COMES (x := "COMES") (z := "comes") rfl
  obtain ⟨t_FOUR, c_FOUR⟩ := fx.int FH.fi_FOUR (x := "FOUR") (n := 4) rfl
  obtain ⟨t_MOST_LEVEL, c_MOST_LEVEL⟩ := fx.int FH.fi_MOST_LEVEL (x := "MOST_LEVEL") (n := 100000) rfl
  obtain ⟨t_NEVER, c_NEVER⟩ := fx.str FH.fi_NEVER (x := "NEVER") (z := "never") rfl
  refine okD (N := N_shows_gates) (ps := ["floor", "gates", "one", "other", "tick", "value"]) (B := B_shows_gates) fx 34 58 (x := "shows_gates") rfl rfl ⟨rfl, rfl, rfl, by decide +kernel, rfl, by decide +kernel, by decide +kernel⟩ (fun _ _ _ _ _ _ us hl => match us, hl with | [_, _, _, _, _, _], _ => rfl) fun P w base cdv A outer s H hr hgu => ?_
  have nd : N_shows_gates.Nodup := by decide +kernel
  have hu := hr.units
  exact (sss_cons (ss_expr (se_call1 (ok_check_ends fx) hr (by decide) hgu rfl run_len (sa_cons (se_var 0) (sa_cons (se_var 1) (sa_cons (se_var 2) (sa_cons (se_var 3) sa_nil))))))
    (sss_cons (ss_expr (se_call1 (ok_check_tick fx) hr (by decide) hgu rfl run_len (sa_cons (se_var 4) sa_nil)))
    (sss_cons (ss_if (SW.st (sw_or (st_not (st_val (se_callB call_isi (oc_isi _) rfl b_isinstance (by decide +kernel) (sa_cons (se_var 5) (sa_cons (se_bltn rfl b_tuple (by decide +kernel)) sa_nil))))) (sw_or (st_cmp (op_notInX hu) (o2_inS _ true) (se_callB call_lenX (oc_len _) rfl b_len (by decide +kernel) (sa_cons (se_var 5) sa_nil)) (se_tup (sa_cons se_int (sa_cons (se_globI rfl c_FOUR) sa_nil))) (by rfl)) (sw_or1 (st_not (st_val (se_callB call_isi (oc_isi _) rfl b_isinstance (by decide +kernel) (sa_cons (se_ixD hu (se_var 5) se_int) (sa_cons (se_bltn rfl b_str (by decide +kernel)) sa_nil))))))))) (sss_one (ss_ret se_bl)) sss_nil)
    (sss_cons (ss_if (st_cmp (op_eqX hu) (o2_data _ _) (se_callB call_lenX (oc_len _) rfl b_len (by decide +kernel) (sa_cons (se_var 5) sa_nil)) se_int (nomark _)) (sss_one (ss_ret (se_and (se_cmp (op_eqX hu) (o2_data _ _) (se_ixD hu (se_var 5) se_int) (se_globS rfl c_NEVER) (nomark _)) (se_one (se_call1 (ok_is_shut_lot fx) hr (by decide) hgu rfl run_len (sa_cons (se_var 0) (sa_cons (se_var 2) (sa_cons (se_var 3) (sa_cons (se_ixD hu (se_var 5) se_int) sa_nil))))))))) sss_nil)
    (sss_cons (ss_if (SW.st (sw_or (st_cmp (op_neX hu) (o2_data _ _) (se_ixD hu (se_var 5) se_int) (se_globS rfl c_COMES) (nomark _)) (sw_or (st_not (st_val (se_call1 (ok_is_between fx) hr (by decide) hgu rfl run_len (sa_cons (se_ixD hu (se_var 5) se_int) (sa_cons se_int (sa_cons (se_globI rfl c_MOST_LEVEL) sa_nil)))))) (sw_or1 (st_not (st_val (se_call1 (ok_are_levels fx) hr (by decide) hgu rfl run_len (sa_cons (se_var 0) (sa_cons (se_var 1) (sa_cons (se_var 3) (sa_cons (se_ixD hu (se_var 5) (se_neg se_int)) sa_nil))))))))))) (sss_one (ss_ret se_bl)) sss_nil)
    (sss_cons (ss_if (st_cmp (op_neX hu) (o2_data _ _) (se_ixD hu (se_ixD hu (se_ixD hu (se_var 5) (se_neg se_int)) (se_idxT (se_ixD hu (se_var 0) se_int) (se_var 2))) (se_mod (se_var 4) (se_ixD hu (se_var 1) se_int))) (se_ixD hu (se_var 5) se_int) (nomark _)) (sss_one (ss_ret se_bl)) sss_nil)
    (sss_one (ss_ret (se_cmp (op_eqX hu) (o2_data _ _) (se_call1 (ok_trip_end fx) hr (by decide) hgu rfl run_len (sa_cons (se_var 0) (sa_cons (se_var 1) (sa_cons (se_var 2) (sa_cons (se_var 4) (sa_cons (se_ixD hu (se_var 5) se_int) sa_nil)))))) (se_tup (sa_cons (se_var 3) (sa_cons (se_add (se_var 4) (se_ixD hu (se_var 5) se_int)) sa_nil))) (nomark _))))))))))
def N_gate_table : List Str := ["floor", "gates", "goal", "found", "cell", "phase"]
def B_gate_table : FS := (fSq (fEx (fCall F_check_ends (fAc (fvar 0) (fAc (fvar 1) (fAc (fvar 2) (fAc (fvar 2) fA0))))))
    (fSq (fAs (fCall F_levels_by (fAc (fvar 0) (fAc (fvar 1) (fAc (fvar 2) fA0)))) (fNm 3))
    (fRt (fCB tupD (fAc (fLc (fSeqI (fE2 ixD (fvar 0) (fC (.int 0)))) (fNm 4) fYes (fCB tupD (fAc (fLc (fRng1 (fAc (fE2 ixD (fvar 1) (fC (.int 0))) fA0)) (fNm 5) fYes (fGet2 (fvar 3) (fTup (fAc (fvar 4) (fAc (fvar 5) fA0))) (fC .non)) [5]) fA0)) [4]) fA0)))))
def F_gate_table : FF := run 6 3 B_gate_table
theorem ok_gate_table {K : PySem.W.Frag} {mg : Str → Option Value} (fx : Fx K mg) : Ok K mg "gate_table" ["floor", "gates", "goal"] 8 F_gate_table := by
  have b_range := fx.free FH.fi_range (f := .free "range") rfl
  have b_tuple := fx.free FH.fi_tuple (f := .free "tuple") rfl
  refine okD (N := N_gate_table) (ps := ["floor", "gates", "goal"]) (B := B_gate_table) fx 35 59 (x := "gate_table") rfl rfl ⟨rfl, rfl, rfl, by decide +kernel, rfl, by decide +kernel, by decide +kernel⟩ (fun _ _ _ _ _ _ us hl => match us, hl with | [_, _, _], _ => rfl) fun P w base cdv A outer s H hr hgu => ?_
  have nd : N_gate_table.Nodup := by decide +kernel
  have hu := hr.units
  exact (sss_cons (ss_expr (se_call1 (ok_check_ends fx) hr (by decide) hgu rfl run_len (sa_cons (se_var 0) (sa_cons (se_var 1) (sa_cons (se_var 2) (sa_cons (se_var 2) sa_nil))))))
    (sss_cons (ss_set nd rfl (by first | exact .inl rfl | exact .inr rfl) (se_call1 (ok_levels_by fx) hr (by decide) hgu rfl run_len (sa_cons (se_var 0) (sa_cons (se_var 1) (sa_cons (se_var 2) sa_nil)))))
    (sss_one (ss_ret (se_callTy call_tupX (oc_tup _) rfl b_tuple (by decide +kernel) (sa_cons (se_lc (ow := [("cell", 4)]) rfl nd (si_seq (se_ixD hu (se_var 0) se_int)) (blkOk_by (by kernel_rfl)) (SB.no (fun _ _ _ _ _ => (sg_name nd rfl (by first | exact .inl rfl | exact .inr rfl))) (fun _ _ _ _ _ => (se_callTy call_tupX (oc_tup _) rfl b_tuple (by decide +kernel) (sa_cons (se_lc (ow := [("phase", 5)]) rfl nd (si_range1 rfl b_range (sa_cons (se_ixD hu (se_var 1) se_int) sa_nil)) (blkOk_by (by kernel_rfl)) (SB.no (fun _ _ _ _ _ => (sg_name nd rfl (by first | exact .inl rfl | exact .inr rfl))) (fun _ _ _ _ _ => (se_get2 hu (se_var 3) (se_tup (sa_cons (se_var 4) (sa_cons (se_var 5) sa_nil))) se_non))) (by decide)) sa_nil)))) (by decide)) sa_nil))))))
def N_phases_told : List Str := ["floor", "gates", "one", "other", "found", "rows", "best", "worst", "phase", "number"]
def B_phases_told : FS := (fSq (fEx (fCall F_check_ends (fAc (fvar 0) (fAc (fvar 1) (fAc (fvar 2) (fAc (fvar 3) fA0))))))
    (fSq (fAs (fCall F_levels_by (fAc (fvar 0) (fAc (fvar 1) (fAc (fvar 3) fA0)))) (fNm 4))
    (fSq (fIfS (fTb (fE2 notInD (fTup (fAc (fvar 2) (fAc (fC (.int 0)) fA0))) (fvar 4))) fNo fNx)
    (fSq (fAs (fLc (fRng1 (fAc (fE2 ixD (fvar 1) (fC (.int 0))) fA0)) (fNm 8) fYes (fTup (fAc (fE2 ixD (fvar 4) (fTup (fAc (fvar 2) (fAc (fvar 8) fA0)))) (fAc (fvar 8) fA0))) [8]) (fNm 5))
    (fSq (fPar 6 7 (fAc (fCB minLD (fAc (fvar 5) fA0)) (fAc (fCB maxLD (fAc (fLc (fSeqI (fvar 5)) (fGt 2 (fGc (fNm 9) (fGc (fNm 8) fG0))) fYes (fTup (fAc (fvar 9) (fAc (fE2 subD (fC (.int 0)) (fvar 8)) fA0))) [9, 8]) fA0)) fA0)))
    (fRt (fTup (fAc (fTup (fAc (fE2 ixD (fvar 6) (fC (.int 1))) (fAc (fE2 ixD (fvar 6) (fC (.int 0))) fA0))) (fAc (fTup (fAc (fE2 subD (fC (.int 0)) (fE2 ixD (fvar 7) (fC (.int 1)))) (fAc (fE2 ixD (fvar 7) (fC (.int 0))) fA0))) fA0)))))))))
def F_phases_told : FF := run 10 4 B_phases_told
theorem ok_phases_told {K : PySem.W.Frag} {mg : Str → Option Value} (fx : Fx K mg) : Ok K mg "phases_told" ["floor", "gates", "one", "other"] 8 F_phases_told := by
  have b_max := fx.free FH.fi_max (f := .free "max") rfl
  have b_min := fx.free FH.fi_min (f := .free "min") rfl
  have b_range := fx.free FH.fi_range (f := .free "range") rfl
  refine okD (N := N_phases_told) (ps := ["floor", "gates", "one", "other"]) (B := B_phases_told) fx 36 60 (x := "phases_told") rfl rfl ⟨rfl, rfl, rfl, by decide +kernel, rfl, by decide +kernel, by decide +kernel⟩ (fun _ _ _ _ _ _ us hl => match us, hl with | [_, _, _, _], _ => rfl) fun P w base cdv A outer s H hr hgu => ?_
  have nd : N_phases_told.Nodup := by decide +kernel
  have hu := hr.units
  exact (sss_cons (ss_expr (se_call1 (ok_check_ends fx) hr (by decide) hgu rfl run_len (sa_cons (se_var 0) (sa_cons (se_var 1) (sa_cons (se_var 2) (sa_cons (se_var 3) sa_nil))))))
    (sss_cons (ss_set nd rfl (by first | exact .inl rfl | exact .inr rfl) (se_call1 (ok_levels_by fx) hr (by decide) hgu rfl run_len (sa_cons (se_var 0) (sa_cons (se_var 1) (sa_cons (se_var 3) sa_nil)))))
    (sss_cons (ss_if (st_cmp (op_notInX hu) (o2_inS _ true) (se_tup (sa_cons (se_var 2) (sa_cons se_int sa_nil))) (se_var 4) (by rfl)) (sss_one ss_never) sss_nil)
    (sss_cons (by first | exact (ss_set nd rfl (by first | exact .inl rfl | exact .inr rfl) (se_lc (ow := [("phase", 8)]) rfl nd (si_range1 rfl b_range (sa_cons (se_ixD hu (se_var 1) se_int) sa_nil)) (blkOk_by (by kernel_rfl)) (SB.no (fun _ _ _ _ _ => (sg_name nd rfl (by first | exact .inl rfl | exact .inr rfl))) (fun _ _ _ _ _ => (se_tup (sa_cons (se_ixD hu (se_var 4) (se_tup (sa_cons (se_var 2) (sa_cons (se_var 8) sa_nil)))) (sa_cons (se_var 8) sa_nil))))) (by decide))) | exact (ss_setLc (ow := [("phase", 8)]) rfl nd rfl rfl rfl (si_range1 rfl b_range (sa_cons (se_ixD hu (se_var 1) se_int) sa_nil)) (blkOk_by (by kernel_rfl)) (SB.no (fun _ _ _ _ _ => (sg_name nd rfl (by first | exact .inl rfl | exact .inr rfl))) (fun _ _ _ _ _ => (se_tup (sa_cons (se_ixD hu (se_var 4) (se_tup (sa_cons (se_var 2) (sa_cons (se_var 8) sa_nil)))) (sa_cons (se_var 8) sa_nil))))) (by decide)))
    (sss_cons (ss_par rfl nd rfl rfl (by decide) rfl rfl (sa_cons (se_callB (call_minX rfl hu) (oc_min _) rfl b_min (by decide +kernel) (sa_cons (se_var 5) sa_nil)) (sa_cons (se_callB (call_maxX rfl hu) (oc_max _) rfl b_max (by decide +kernel) (sa_cons (se_lc (ow := [("number", 9), ("phase", 8)]) rfl nd (si_seq (se_var 5)) (blkOk_by (by kernel_rfl)) (SB.no (fun _ _ _ _ _ => (sg_tup rfl (sgs_cons (sg_name nd rfl (by first | exact .inl rfl | exact .inr rfl)) (sgs_cons (sg_name nd rfl (by first | exact .inl rfl | exact .inr rfl)) sgs_nil)))) (fun _ _ _ _ _ => (se_tup (sa_cons (se_var 9) (sa_cons (se_sub se_int (se_var 8)) sa_nil))))) (by decide)) sa_nil)) sa_nil)) (by rfl))
    (sss_one (ss_ret (se_tup (sa_cons (se_tup (sa_cons (se_ixD hu (se_var 6) se_int) (sa_cons (se_ixD hu (se_var 6) se_int) sa_nil))) (sa_cons (se_tup (sa_cons (se_sub se_int (se_ixD hu (se_var 7) se_int)) (sa_cons (se_ixD hu (se_var 7) se_int) sa_nil))) sa_nil))))))))))
end FL

set_option Elab.async false
set_option linter.all false
set_option maxRecDepth 100000
set_option maxHeartbeats 0
set_option autoImplicit false
namespace FL
open PySem PySem.Spec PyProof.Rows L2

def N__law_pot : List Str := ["script", "place", "cell", "own", "small"]
def B__law_pot : FS := (fSq (fAs (fIf (fTb (fE2 ltD (fvar 1) (fCB lenD (fAc (fvar 0) fA0)))) (fE2 ixD (fvar 0) (fvar 1)) (fE2 addD (fE2 mulD (fC (.int 2111)) (fvar 1)) (fC (.int 883)))) (fNm 2))
    (fSq (fAs (fE2 mulD (fE2 modD (fCB intD (fAc (fCB absD (fAc (fvar 2) fA0)) fA0)) (fE2 powD (fE2 powD (fC (.int 10)) (fC (.int 60))) (fC (.int 5)))) (fCB intD (fAc (fE2 geD (fCB absD (fAc (fvar 2) fA0)) (fE2 powD (fC (.int 10)) (fC (.int 18)))) fA0))) (fNm 3))
    (fSq (fAs (fE2 modD (fCB intD (fAc (fvar 2) fA0)) (fC (.int 2305843009213693951))) (fNm 4))
    (fRt (fLst (fAc (fvar 3) (fAc (fE2 modD (fCB intD (fAc (fE2 addD (fE2 addD (fE2 mulD (fvar 4) (fC (.int 83483))) (fE2 mulD (fE2 mulD (fC (.int 6569)) (fvar 1)) (fvar 1))) (fC (.int 563))) fA0)) (fC (.int 2305843009213693921))) (fAc (fC (.int 0)) fA0))))))))
def F__law_pot : FF := run 5 2 B__law_pot
theorem ok__law_pot {K : PySem.W.Frag} {mg : Str → Option Value} (fx : Fx K mg) : Ok K mg "_law_pot" ["script", "place"] 1 F__law_pot := by
  have b_abs := fx.free FH.fi_abs (f := .free "abs") rfl
  have b_int := fx.free FH.fi_int (f := .free "int") rfl
  have b_len := fx.free FH.fi_len (f := .free "len") rfl
  refine okD (N := N__law_pot) (ps := ["script", "place"]) (B := B__law_pot) fx 37 62 (x := "_law_pot") rfl rfl ⟨rfl, rfl, rfl, by decide +kernel, rfl, by decide +kernel, by decide +kernel⟩ (fun _ _ _ _ _ _ us hl => match us, hl with | [_, _], _ => rfl) fun P w base cdv A outer s H hr hgu => ?_
  have nd : N__law_pot.Nodup := by decide +kernel
  have hu := hr.units
  exact (sss_cons (ss_set nd rfl (by first | exact .inl rfl | exact .inr rfl) (se_if (st_cmp (op_ltX hu) (o2_lt _) (se_var 1) (se_callB call_lenX (oc_len _) rfl b_len (by decide +kernel) (sa_cons (se_var 0) sa_nil)) (nomark _)) (se_ixD hu (se_var 0) (se_var 1)) (se_add (se_mul se_int (se_var 1)) se_int)))
    (sss_cons (ss_set nd rfl (by first | exact .inl rfl | exact .inr rfl) (se_mul (se_mod (se_callTy call_int1 oc_int rfl b_int (by decide +kernel) (sa_cons (se_callB call_abs oc_abs rfl b_abs (by decide +kernel) (sa_cons (se_var 2) sa_nil)) sa_nil)) (se_pow (se_pow se_int se_int) se_int)) (se_callTy call_int1 oc_int rfl b_int (by decide +kernel) (sa_cons (se_cmp op_ge o2_B0 (se_callB call_abs oc_abs rfl b_abs (by decide +kernel) (sa_cons (se_var 2) sa_nil)) (se_pow se_int se_int) (nomark _)) sa_nil))))
    (sss_cons (ss_set nd rfl (by first | exact .inl rfl | exact .inr rfl) (se_mod (se_callTy call_int1 oc_int rfl b_int (by decide +kernel) (sa_cons (se_var 2) sa_nil)) se_int))
    (sss_one (ss_ret (se_lst (sa_cons (se_var 3) (sa_cons (se_mod (se_callTy call_int1 oc_int rfl b_int (by decide +kernel) (sa_cons (se_add (se_add (se_mul (se_var 4) se_int) (se_mul (se_mul se_int (se_var 1)) (se_var 1))) se_int) sa_nil)) se_int) (sa_cons se_int sa_nil)))))))))
def N__law_take : List Str := ["pot", "upto", "prime", "blend", "digit"]
def B__law_take : FS := (fSq (fIfS (fTb (fE2 gtD (fE2 ixD (fvar 0) (fC (.int 0))) (fC (.int 0)))) (fSq (fAs (fE2 modD (fCB intD (fAc (fE2 ixD (fvar 0) (fC (.int 0))) fA0)) (fvar 1)) (fNm 4))
    (fSq (fPut (fE2 fdivD (fE2 ixD (fvar 0) (fC (.int 0))) (fvar 1)) (fvar 0) (fC (.int 0)))
    (fRt (fvar 4)))) fNx)
    (fSq (fPut (fE2 addD (fE2 ixD (fvar 0) (fC (.int 2))) (fC (.int 1))) (fvar 0) (fC (.int 2)))
    (fSq (fAs (fE2 ixD (fLst (fAc (fC (.int 2147483647)) (fAc (fC (.int 2147483629)) (fAc (fC (.int 2147483587)) (fAc (fC (.int 2147483579)) (fAc (fC (.int 2147483563)) fA0)))))) (fE2 modD (fCB intD (fAc (fE2 ixD (fvar 0) (fC (.int 2))) fA0)) (fC (.int 5)))) (fNm 2))
    (fSq (fAs (fE2 modD (fCB intD (fAc (fE2 powD (fCB intD (fAc (fE2 addD (fE2 addD (fE2 ixD (fvar 0) (fC (.int 1))) (fE2 mulD (fE2 mulD (fC (.int 98693)) (fE2 ixD (fvar 0) (fC (.int 2)))) (fE2 ixD (fvar 0) (fC (.int 2))))) (fC (.int 377))) fA0)) (fC (.int 3))) fA0)) (fvar 2)) (fNm 3))
    (fSq (fAs (fE2 modD (fCB intD (fAc (fE2 mulD (fvar 3) (fE2 addD (fE2 modD (fCB intD (fAc (fvar 3) fA0)) (fC (.int 11183))) (fE2 mulD (fC (.int 419)) (fE2 ixD (fvar 0) (fC (.int 2)))))) fA0)) (fC (.int 2305843009213693907))) (fNm 3))
    (fRt (fE2 modD (fCB intD (fAc (fE2 fdivD (fvar 3) (fC (.int 151))) fA0)) (fvar 1))))))))
def F__law_take : FF := run 5 2 B__law_take
theorem ok__law_take {K : PySem.W.Frag} {mg : Str → Option Value} (fx : Fx K mg) : Ok K mg "_law_take" ["pot", "upto"] 1 F__law_take := by
  have b_int := fx.free FH.fi_int (f := .free "int") rfl
  refine okD (N := N__law_take) (ps := ["pot", "upto"]) (B := B__law_take) fx 38 63 (x := "_law_take") rfl rfl ⟨rfl, rfl, rfl, by decide +kernel, rfl, by decide +kernel, by decide +kernel⟩ (fun _ _ _ _ _ _ us hl => match us, hl with | [_, _], _ => rfl) fun P w base cdv A outer s H hr hgu => ?_
  have nd : N__law_take.Nodup := by decide +kernel
  have hu := hr.units
  exact (sss_cons (ss_if (st_cmp op_gt o2_B0 (se_ixD hu (se_var 0) se_int) se_int (nomark _)) (sss_cons (ss_set nd rfl (by first | exact .inl rfl | exact .inr rfl) (se_mod (se_callTy call_int1 oc_int rfl b_int (by decide +kernel) (sa_cons (se_ixD hu (se_var 0) se_int) sa_nil)) (se_var 1)))
    (sss_cons (ss_put hu (se_var 0) se_int (se_fdiv (se_ixD hu (se_var 0) se_int) (se_var 1)))
    (sss_one (ss_ret (se_var 4))))) sss_nil)
    (sss_cons (ss_put hu (se_var 0) se_int (se_add (se_ixD hu (se_var 0) se_int) se_int))
    (sss_cons (ss_set nd rfl (by first | exact .inl rfl | exact .inr rfl) (se_ixD hu (se_lst (sa_cons se_int (sa_cons se_int (sa_cons se_int (sa_cons se_int (sa_cons se_int sa_nil)))))) (se_mod (se_callTy call_int1 oc_int rfl b_int (by decide +kernel) (sa_cons (se_ixD hu (se_var 0) se_int) sa_nil)) se_int)))
    (sss_cons (ss_set nd rfl (by first | exact .inl rfl | exact .inr rfl) (se_mod (se_callTy call_int1 oc_int rfl b_int (by decide +kernel) (sa_cons (se_pow (se_callTy call_int1 oc_int rfl b_int (by decide +kernel) (sa_cons (se_add (se_add (se_ixD hu (se_var 0) se_int) (se_mul (se_mul se_int (se_ixD hu (se_var 0) se_int)) (se_ixD hu (se_var 0) se_int))) se_int) sa_nil)) se_int) sa_nil)) (se_var 2)))
    (sss_cons (ss_set nd rfl (by first | exact .inl rfl | exact .inr rfl) (se_mod (se_callTy call_int1 oc_int rfl b_int (by decide +kernel) (sa_cons (se_mul (se_var 3) (se_add (se_mod (se_callTy call_int1 oc_int rfl b_int (by decide +kernel) (sa_cons (se_var 3) sa_nil)) se_int) (se_mul se_int (se_ixD hu (se_var 0) se_int)))) sa_nil)) se_int))
    (sss_one (ss_ret (se_mod (se_callTy call_int1 oc_int rfl b_int (by decide +kernel) (sa_cons (se_fdiv (se_var 3) se_int) sa_nil)) (se_var 1)))))))))
def N__law_cells : List Str := ["script", "limit"]
def B__law_cells : FS := (fRt (fLRg1 (fCB maxLD (fAc (fC (.int 1)) (fAc (fCB minLD (fAc (fvar 1) (fAc (fCB lenD (fAc (fvar 0) fA0)) fA0))) fA0)))))
def F__law_cells : FF := run 2 2 B__law_cells
theorem ok__law_cells {K : PySem.W.Frag} {mg : Str → Option Value} (fx : Fx K mg) : Ok K mg "_law_cells" ["script", "limit"] 1 F__law_cells := by
  have b_len := fx.free FH.fi_len (f := .free "len") rfl
  have b_list := fx.free FH.fi_list (f := .free "list") rfl
  have b_max := fx.free FH.fi_max (f := .free "max") rfl
  have b_min := fx.free FH.fi_min (f := .free "min") rfl
  have b_range := fx.free FH.fi_range (f := .free "range") rfl
  refine okD (N := N__law_cells) (ps := ["script", "limit"]) (B := B__law_cells) fx 39 64 (x := "_law_cells") rfl rfl ⟨rfl, rfl, rfl, by decide +kernel, rfl, by decide +kernel, by decide +kernel⟩ (fun _ _ _ _ _ _ us hl => match us, hl with | [_, _], _ => rfl) fun P w base cdv A outer s H hr hgu => ?_
  have nd : N__law_cells.Nodup := by decide +kernel
  have hu := hr.units
  exact (sss_one (ss_ret (se_lstRg1 rfl rfl b_list rfl b_range (se_callB (call_maxX rfl hu) (oc_max _) rfl b_max (by decide +kernel) (sa_cons se_int (sa_cons (se_callB (call_minX rfl hu) (oc_min _) rfl b_min (by decide +kernel) (sa_cons (se_var 1) (sa_cons (se_callB call_lenX (oc_len _) rfl b_len (by decide +kernel) (sa_cons (se_var 0) sa_nil)) sa_nil))) sa_nil))))))
def N__law_phases : List Str := ["pot", "around", "found", "at"]
def B__law_phases : FS := (fSq (fAs (fLc (fRng1 (fAc (fvar 1) fA0)) (fNm 3) (fTb (fE2 eqD (fCall F__law_take (fAc (fvar 0) (fAc (fC (.int 3)) fA0))) (fC (.int 0)))) (fvar 3) [3]) (fNm 2))
    (fRt (fCB tupD (fAc (fIf (fTb (fE2 neD (fvar 2) (fLst fA0))) (fvar 2) (fLst (fAc (fCall F__law_take (fAc (fvar 0) (fAc (fvar 1) fA0))) fA0))) fA0))))
def F__law_phases : FF := run 4 2 B__law_phases
theorem ok__law_phases {K : PySem.W.Frag} {mg : Str → Option Value} (fx : Fx K mg) : Ok K mg "_law_phases" ["pot", "around"] 2 F__law_phases := by
  have b_range := fx.free FH.fi_range (f := .free "range") rfl
  have b_tuple := fx.free FH.fi_tuple (f := .free "tuple") rfl
  refine okD (N := N__law_phases) (ps := ["pot", "around"]) (B := B__law_phases) fx 40 65 (x := "_law_phases") rfl rfl ⟨rfl, rfl, rfl, by decide +kernel, rfl, by decide +kernel, by decide +kernel⟩ (fun _ _ _ _ _ _ us hl => match us, hl with | [_, _], _ => rfl) fun P w base cdv A outer s H hr hgu => ?_
  have nd : N__law_phases.Nodup := by decide +kernel
  have hu := hr.units
  exact (sss_cons (by first | exact (ss_set nd rfl (by first | exact .inl rfl | exact .inr rfl) (se_lc (ow := [("at", 3)]) rfl nd (si_range1 rfl b_range (sa_cons (se_var 1) sa_nil)) (blkOk_by (by kernel_rfl)) (SB.one (fun _ _ _ _ _ => (sg_name nd rfl (by first | exact .inl rfl | exact .inr rfl))) (fun _ _ _ _ _ => (se_var 3)) (fun _ _ _ _ _ => (st_cmp (op_eqX hu) (o2_data _ _) (se_call1 (ok__law_take fx) hr (by decide) hgu rfl run_len (sa_cons (se_var 0) (sa_cons se_int sa_nil))) se_int (nomark _)))) (by decide))) | exact (ss_setLc (ow := [("at", 3)]) rfl nd rfl rfl rfl (si_range1 rfl b_range (sa_cons (se_var 1) sa_nil)) (blkOk_by (by kernel_rfl)) (SB.one (fun _ _ _ _ _ => (sg_name nd rfl (by first | exact .inl rfl | exact .inr rfl))) (fun _ _ _ _ _ => (se_var 3)) (fun _ _ _ _ _ => (st_cmp (op_eqX hu) (o2_data _ _) (se_call1 (ok__law_take fx) hr (by decide) hgu rfl run_len (sa_cons (se_var 0) (sa_cons se_int sa_nil))) se_int (nomark _)))) (by decide)))
    (sss_one (ss_ret (se_callTy call_tupX (oc_tup _) rfl b_tuple (by decide +kernel) (sa_cons (se_if (st_cmp (op_neX hu) (o2_data _ _) (se_var 2) (se_lst sa_nil) (nomark _)) (se_var 2) (se_lst (sa_cons (se_call1 (ok__law_take fx) hr (by decide) hgu rfl run_len (sa_cons (se_var 0) (sa_cons (se_var 1) sa_nil))) sa_nil))) sa_nil)))))
def N__law_gaps : List Str := ["phases", "around", "found", "at", "phase", "later"]
def B__law_gaps : FS := (fSq (fAs (fLst fA0) (fNm 2))
    (fSq (fFor (fEnum (fAc (fvar 0) fA0)) (fGt 2 (fGc (fNm 3) (fGc (fNm 4) fG0)))
    (fSq (fAs (fE2 ixD (fvar 0) (fE2 modD (fCB intD (fAc (fE2 addD (fvar 3) (fC (.int 1))) fA0)) (fCB lenD (fAc (fvar 0) fA0)))) (fNm 5))
    (fEx (fM "list" appD (fvar 2) (fAc (fE2 addD (fE2 modD (fCB intD (fAc (fE2 subD (fE2 subD (fvar 5) (fvar 4)) (fC (.int 1))) fA0)) (fvar 1)) (fC (.int 1))) fA0)))))
    (fRt (fvar 2))))
def F__law_gaps : FF := run 6 2 B__law_gaps
theorem ok__law_gaps {K : PySem.W.Frag} {mg : Str → Option Value} (fx : Fx K mg) : Ok K mg "_law_gaps" ["phases", "around"] 1 F__law_gaps := by
  have b_enumerate := fx.free FH.fi_enumerate (f := .free "enumerate") rfl
  have b_int := fx.free FH.fi_int (f := .free "int") rfl
  have b_len := fx.free FH.fi_len (f := .free "len") rfl
  refine okD (N := N__law_gaps) (ps := ["phases", "around"]) (B := B__law_gaps) fx 41 66 (x := "_law_gaps") rfl rfl ⟨rfl, rfl, rfl, by decide +kernel, rfl, by decide +kernel, by decide +kernel⟩ (fun _ _ _ _ _ _ us hl => match us, hl with | [_, _], _ => rfl) fun P w base cdv A outer s H hr hgu => ?_
  have nd : N__law_gaps.Nodup := by decide +kernel
  have hu := hr.units
  exact (sss_cons (ss_set nd rfl (by first | exact .inl rfl | exact .inr rfl) (se_lst sa_nil))
    (sss_cons (ss_for PassesOwn.never rfl (si_enum rfl b_enumerate (sa_cons (se_var 0) sa_nil)) (sg_tup rfl (sgs_cons (sg_name nd rfl (by first | exact .inl rfl | exact .inr rfl)) (sgs_cons (sg_name nd rfl (by first | exact .inl rfl | exact .inr rfl)) sgs_nil))) (sss_cons (ss_set nd rfl (by first | exact .inl rfl | exact .inr rfl) (se_ixD hu (se_var 0) (se_mod (se_callTy call_int1 oc_int rfl b_int (by decide +kernel) (sa_cons (se_add (se_var 3) se_int) sa_nil)) (se_callB call_lenX (oc_len _) rfl b_len (by decide +kernel) (sa_cons (se_var 0) sa_nil)))))
    (sss_one (ss_expr (se_append (se_var 2) (se_add (se_mod (se_callTy call_int1 oc_int rfl b_int (by decide +kernel) (sa_cons (se_sub (se_sub (se_var 5) (se_var 4)) se_int) sa_nil)) (se_var 1)) se_int))))))
    (sss_one (ss_ret (se_var 2)))))
def N__law_goes : List Str := ["opens", "around", "way", "tick", "phases", "takes", "later"]
def B__law_goes : FS := (fSq (fAs (fGet2 (fvar 0) (fvar 2) (fTup (fAc (fTRg1 (fvar 1)) (fAc (fC (.int 1)) fA0)))) (fGt 2 (fGc (fNm 4) (fGc (fNm 5) fG0))))
    (fSq (fFor (fRng2 (fAc (fvar 3) (fAc (fE2 addD (fvar 3) (fvar 1)) fA0))) (fNm 6)
    (fIfS (fTb (fE2 inD (fE2 modD (fCB intD (fAc (fvar 6) fA0)) (fvar 1)) (fvar 4))) (fRt (fTup (fAc (fvar 6) (fAc (fE2 addD (fvar 6) (fvar 5)) fA0)))) fNx))
    (fRt (fTup (fAc (fvar 3) (fAc (fvar 3) fA0))))))
def F__law_goes : FF := run 7 4 B__law_goes
theorem ok__law_goes {K : PySem.W.Frag} {mg : Str → Option Value} (fx : Fx K mg) : Ok K mg "_law_goes" ["opens", "around", "way", "tick"] 1 F__law_goes := by
  have b_int := fx.free FH.fi_int (f := .free "int") rfl
  have b_range := fx.free FH.fi_range (f := .free "range") rfl
  have b_tuple := fx.free FH.fi_tuple (f := .free "tuple") rfl
  refine okD (N := N__law_goes) (ps := ["opens", "around", "way", "tick"]) (B := B__law_goes) fx 42 67 (x := "_law_goes") rfl rfl ⟨rfl, rfl, rfl, by decide +kernel, rfl, by decide +kernel, by decide +kernel⟩ (fun _ _ _ _ _ _ us hl => match us, hl with | [_, _, _, _], _ => rfl) fun P w base cdv A outer s H hr hgu => ?_
  have nd : N__law_goes.Nodup := by decide +kernel
  have hu := hr.units
  exact (sss_cons (ss_asg (se_get2 hu (se_var 0) (se_var 2) (se_tup (sa_cons (se_tupRg1 rfl rfl b_tuple rfl b_range (se_var 1)) (sa_cons se_int sa_nil)))) (sg_tup rfl (sgs_cons (sg_name nd rfl (by first | exact .inl rfl | exact .inr rfl)) (sgs_cons (sg_name nd rfl (by first | exact .inl rfl | exact .inr rfl)) sgs_nil))))
    (sss_cons (ss_for PassesOwn.never rfl (si_range2 rfl b_range (sa_cons (se_var 3) (sa_cons (se_add (se_var 3) (se_var 1)) sa_nil))) (sg_name nd rfl (by first | exact .inl rfl | exact .inr rfl)) (sss_one (ss_if (st_cmp (op_inX hu) (o2_inS _ false) (se_mod (se_callTy call_int1 oc_int rfl b_int (by decide +kernel) (sa_cons (se_var 6) sa_nil)) (se_var 1)) (se_var 4) (by rfl)) (sss_one (ss_ret (se_tup (sa_cons (se_var 6) (sa_cons (se_add (se_var 6) (se_var 5)) sa_nil))))) sss_nil)))
    (sss_one (ss_ret (se_tup (sa_cons (se_var 3) (sa_cons (se_var 3) sa_nil)))))))
def N__law_trip : List Str := ["opens", "around", "cells", "tick", "found", "here", "way", "begin"]
def B__law_trip : FS := (fSq (fPar 4 5 (fAc (fLst fA0) (fAc (fvar 3) fA0)))
    (fSq (fFor (fZip (fAc (fvar 2) (fAc (fSl (fvar 2) (fO1 (fC (.int 1))) fO0) fA0))) (fNm 6)
    (fSq (fAs (fCall F__law_goes (fAc (fvar 0) (fAc (fvar 1) (fAc (fvar 6) (fAc (fvar 5) fA0))))) (fGt 2 (fGc (fNm 7) (fGc (fNm 5) fG0))))
    (fEx (fM "list" appD (fvar 4) (fAc (fE2 addD (fTup (fAc (fvar 7) fA0)) (fvar 6)) fA0)))))
    (fRt (fTup (fAc (fCB tupD (fAc (fvar 4) fA0)) (fAc (fvar 5) fA0))))))
def F__law_trip : FF := run 8 4 B__law_trip
theorem ok__law_trip {K : PySem.W.Frag} {mg : Str → Option Value} (fx : Fx K mg) : Ok K mg "_law_trip" ["opens", "around", "cells", "tick"] 2 F__law_trip := by
  have b_tuple := fx.free FH.fi_tuple (f := .free "tuple") rfl
  have b_zip := fx.free FH.fi_zip (f := .free "zip") rfl
  refine okD (N := N__law_trip) (ps := ["opens", "around", "cells", "tick"]) (B := B__law_trip) fx 43 68 (x := "_law_trip") rfl rfl ⟨rfl, rfl, rfl, by decide +kernel, rfl, by decide +kernel, by decide +kernel⟩ (fun _ _ _ _ _ _ us hl => match us, hl with | [_, _, _, _], _ => rfl) fun P w base cdv A outer s H hr hgu => ?_
  have nd : N__law_trip.Nodup := by decide +kernel
  have hu := hr.units
  exact (sss_cons (ss_par rfl nd rfl rfl (by decide) rfl rfl (sa_cons (se_lst sa_nil) (sa_cons (se_var 3) sa_nil)) (by rfl))
    (sss_cons (ss_for PassesOwn.never rfl (si_zip rfl b_zip (sa_cons (se_var 2) (sa_cons (se_sl (se_var 2) (so_some se_int) so_none) sa_nil))) (sg_name nd rfl (by first | exact .inl rfl | exact .inr rfl)) (sss_cons (ss_asg (se_call1 (ok__law_goes fx) hr (by decide) hgu rfl run_len (sa_cons (se_var 0) (sa_cons (se_var 1) (sa_cons (se_var 6) (sa_cons (se_var 5) sa_nil))))) (sg_tup rfl (sgs_cons (sg_name nd rfl (by first | exact .inl rfl | exact .inr rfl)) (sgs_cons (sg_name nd rfl (by first | exact .inl rfl | exact .inr rfl)) sgs_nil))))
    (sss_one (ss_expr (se_append (se_var 4) (se_add (se_tup (sa_cons (se_var 7) sa_nil)) (se_var 6)))))))
    (sss_one (ss_ret (se_tup (sa_cons (se_callTy call_tupX (oc_tup _) rfl b_tuple (by decide +kernel) (sa_cons (se_var 4) sa_nil)) (sa_cons (se_var 5) sa_nil)))))))
def N__law_right : List Str := ["pot", "cells", "around", "opens", "floor", "way", "gates", "begin", "numbers", "table", "best", "worst", "due", "total", "starts", "trip", "there", "told", "waits", "tick", "gaps", "later", "many", "off", "at", "gap"]
def B__law_right : FS := (fSq (fAs (fLc (fRng1 (fAc (fE2 addD (fC (.int 2)) (fCall F__law_take (fAc (fvar 0) (fAc (fC (.int 5)) fA0)))) fA0)) (fNm 24) fYes (fE2 addD (fC (.str "c")) (fCB strD (fAc (fvar 24) fA0))) [24]) (fNm 1))
    (fSq (fAs (fTup (fAc (fE2 addD (fC (.int 1)) (fCall F__law_take (fAc (fvar 0) (fAc (fC (.int 12)) fA0)))) (fAc fDT0 fA0))) (fGt 2 (fGc (fNm 2) (fGc (fNm 3) fG0))))
    (fSq (fAs (fTup (fAc (fCB tupD (fAc (fvar 1) fA0)) (fAc (fCB tupD (fAc (fLZip (fAc (fvar 1) (fAc (fSl (fvar 1) (fO1 (fC (.int 1))) fO0) fA0))) fA0)) fA0))) (fNm 4))
    (fSq (fFor (fSeqI (fE2 ixD (fvar 4) (fC (.int 1)))) (fNm 5)
    (fIfS (fTb (fE2 gtD (fCall F__law_take (fAc (fvar 0) (fAc (fC (.int 4)) fA0))) (fC (.int 0)))) (fPut (fTup (fAc (fCall F__law_phases (fAc (fvar 0) (fAc (fvar 2) fA0))) (fAc (fE2 addD (fC (.int 1)) (fCall F__law_take (fAc (fvar 0) (fAc (fC (.int 9)) fA0)))) fA0))) (fvar 3) (fvar 5)) fNx))
    (fSq (fAs (fTup (fAc (fvar 2) (fAc (fCB tupD (fAc (fLc (fSeqI (fCB sortD (fAc (fvar 3) fA0))) (fNm 5) fYes (fE2 addD (fvar 5) (fE2 ixD (fvar 3) (fvar 5))) [5]) fA0)) fA0))) (fNm 6))
    (fSq (fAs (fCall F__law_take (fAc (fvar 0) (fAc (fC (.int 2000)) fA0))) (fNm 7))
    (fSq (fFor (fSeqI (fE2 ixD (fvar 4) (fC (.int 1)))) (fNm 5)
    (fSq (fAs (fLst fA0) (fNm 18))
    (fSq (fFor (fRng2 (fAc (fvar 7) (fAc (fE2 addD (fvar 7) (fvar 2)) fA0))) (fNm 19)
    (fSq (fAs (fCall F_set_off (fAc (fvar 4) (fAc (fvar 6) (fAc (fE2 ixD (fvar 5) (fC (.int 0))) (fAc (fE2 ixD (fvar 5) (fC (.int 1))) (fAc (fvar 19) fA0)))))) (fNm 17))
    (fSq (fIfS (fTb (fE2 neD (fCB reprD (fAc (fvar 17) fA0)) (fCB reprD (fAc (fCall F__law_goes (fAc (fvar 3) (fAc (fvar 2) (fAc (fvar 5) (fAc (fvar 19) fA0))))) fA0)))) (fRt (fC (.bl false))) fNx)
    (fEx (fM "list" appD (fvar 18) (fAc (fE2 subD (fE2 ixD (fvar 17) (fC (.int 0))) (fvar 19)) fA0))))))
    (fSq (fAs (fIf (fTb (fE2 inD (fvar 5) (fvar 3))) (fCall F__law_gaps (fAc (fE2 ixD (fE2 ixD (fvar 3) (fvar 5)) (fC (.int 0))) (fAc (fvar 2) fA0))) (fE2 mulD (fLst (fAc (fC (.int 1)) fA0)) (fvar 2))) (fNm 20))
    (fIfS (fOr (fTb (fE2 neD (fCB sumD (fAc (fvar 20) fA0)) (fvar 2))) (fTb (fE2 neD (fE2 mulD (fC (.int 2)) (fCB sumD (fAc (fvar 18) fA0))) (fCB sumD (fAc (fLc (fSeqI (fvar 20)) (fNm 25) fYes (fE2 mulD (fvar 25) (fE2 subD (fvar 25) (fC (.int 1)))) [25]) fA0))))) (fRt (fC (.bl false))) fNx)))))
    (fSq (fAs (fLc (fRng1 (fAc (fvar 2) fA0)) (fNm 19) fYes (fE2 subD (fE2 ixD (fCall F__law_trip (fAc (fvar 3) (fAc (fvar 2) (fAc (fvar 1) (fAc (fvar 19) fA0))))) (fC (.int 1))) (fvar 19)) [19]) (fNm 8))
    (fSq (fAs (fCall F_gate_table (fAc (fvar 4) (fAc (fvar 6) (fAc (fE2 ixD (fvar 1) (fE1 negD (fC (.int 1)))) fA0)))) (fNm 9))
    (fSq (fIfS (fOr (fTb (fE2 neD (fE2 ixD (fvar 9) (fC (.int 0))) (fCB tupD (fAc (fvar 8) fA0)))) (fTb (fE2 neD (fE2 ixD (fvar 9) (fE1 negD (fC (.int 1)))) (fE2 mulD (fTup (fAc (fC (.int 0)) fA0)) (fvar 2))))) (fRt (fC (.bl false))) fNx)
    (fSq (fPar 10 11 (fAc (fCB minLD (fAc (fvar 8) fA0)) (fAc (fCB maxLD (fAc (fvar 8) fA0)) fA0)))
    (fSq (fAs (fTup (fAc (fTup (fAc (fM "list" idxID (fvar 8) (fAc (fvar 10) fA0)) (fAc (fvar 10) fA0))) (fAc (fTup (fAc (fM "list" idxID (fvar 8) (fAc (fvar 11) fA0)) (fAc (fvar 11) fA0))) fA0))) (fNm 12))
    (fSq (fIfS (fTb (fE2 neD (fCB reprD (fAc (fCall F_phases_told (fAc (fvar 4) (fAc (fvar 6) (fAc (fE2 ixD (fvar 1) (fC (.int 0))) (fAc (fE2 ixD (fvar 1) (fE1 negD (fC (.int 1)))) fA0))))) fA0)) (fCB reprD (fAc (fvar 12) fA0)))) (fRt (fC (.bl false))) fNx)
    (fSq (fPar 13 14 (fAc (fC (.int 0)) (fAc (fCB dictKD (fAc (fLc (fRng1 (fAc (fvar 2) fA0)) (fNm 19) fYes (fTup (fAc (fvar 19) (fAc (fC (.int 1)) fA0))) [19]) fA0)) fA0)))
    (fSq (fFor (fSeqI (fE2 ixD (fvar 4) (fC (.int 1)))) (fNm 5)
    (fSq (fAs fDK0 (fNm 21))
    (fSq (fLk 14 (fFor (fItems (fvar 14)) (fGt 2 (fGc (fNm 19) (fGc (fNm 22) fG0)))
    (fSq (fAs (fCall F__law_goes (fAc (fvar 3) (fAc (fvar 2) (fAc (fvar 5) (fAc (fvar 19) fA0))))) (fGt 2 (fGc (fNm 23) (fGc (fNm 16) fG0))))
    (fSq (fAs (fE2 addD (fvar 13) (fE2 mulD (fvar 22) (fE2 subD (fvar 16) (fvar 19)))) (fNm 13))
    (fPut (fE2 addD (fGet2 (fvar 21) (fvar 16) (fC (.int 0))) (fvar 22)) (fvar 21) (fvar 16))))))
    (fAs (fvar 21) (fNm 14)))))
    (fSq (fIfS (fOr (fTb (fE2 neD (fvar 13) (fCB sumD (fAc (fvar 8) fA0)))) (fTb (fE2 geD (fE2 subD (fvar 11) (fvar 10)) (fCB maxLD (fAc (fC (.int 1)) (fAc (fvar 2) fA0)))))) (fRt (fC (.bl false))) fNx)
    (fSq (fAs (fCall F__law_trip (fAc (fvar 3) (fAc (fvar 2) (fAc (fvar 1) (fAc (fvar 7) fA0))))) (fGt 2 (fGc (fNm 15) (fGc (fNm 16) fG0))))
    (fSq (fIfS (fTb (fE2 neD (fCall F_trip_told (fAc (fvar 4) (fAc (fvar 6) (fAc (fE2 ixD (fvar 1) (fC (.int 0))) (fAc (fvar 7) (fAc (fvar 15) fA0)))))) (fTup (fAc (fE2 ixD (fvar 1) (fE1 negD (fC (.int 1)))) (fAc (fvar 16) fA0))))) (fRt (fC (.bl false))) fNx)
    (fSq (fAs (fCall F_gates_told (fAc (fvar 4) (fAc (fvar 6) (fAc (fE2 ixD (fvar 1) (fC (.int 0))) (fAc (fE2 ixD (fvar 1) (fE1 negD (fC (.int 1)))) (fAc (fvar 7) fA0)))))) (fNm 17))
    (fSq (fIfS (fOr (fTb (fE2 neD (fCB reprD (fAc (fE2 ixD (fvar 17) (fC (.int 1))) fA0)) (fCB reprD (fAc (fE2 subD (fvar 16) (fvar 7)) fA0)))) (fTb (fE2 isnD (fCall F_shows_gates (fAc (fvar 4) (fAc (fvar 6) (fAc (fE2 ixD (fvar 1) (fC (.int 0))) (fAc (fE2 ixD (fvar 1) (fE1 negD (fC (.int 1)))) (fAc (fvar 7) (fAc (fvar 17) fA0))))))) (fC (.bl true))))) (fRt (fC (.bl false))) fNx)
    (fSq (fIfS (fTb (fE2 isnD (fCall F_shows_gates (fAc (fvar 4) (fAc (fvar 6) (fAc (fE2 ixD (fvar 1) (fC (.int 0))) (fAc (fE2 ixD (fvar 1) (fE1 negD (fC (.int 1)))) (fAc (fvar 7) (fAc (fE2 addD (fE2 addD (fSl (fvar 17) fO0 (fO1 (fC (.int 2)))) (fTup (fAc (fvar 15) fA0))) (fSl (fvar 17) (fO1 (fC (.int 3))) fO0)) fA0))))))) (fC (.bl true)))) (fRt (fC (.bl false))) fNx)
    (fRt (fIf (fTb (fE2 eqD (fCB lenD (fAc (fvar 1) fA0)) (fC (.int 2)))) (fE2 eqD (fCall F_gates_told (fAc (fvar 4) (fAc (fvar 6) (fAc (fE2 ixD (fvar 1) (fE1 negD (fC (.int 1)))) (fAc (fE2 ixD (fvar 1) (fC (.int 0))) (fAc (fvar 7) fA0)))))) (fTup (fAc (fC (.str "never")) (fAc (fTup (fAc (fE2 ixD (fvar 1) (fE1 negD (fC (.int 1)))) fA0)) fA0)))) (fC (.bl true)))))))))))))))))))))))))
def F__law_right : FF := run 26 1 B__law_right
theorem ok__law_right {K : PySem.W.Frag} {mg : Str → Option Value} (fx : Fx K mg) : Ok K mg "_law_right" ["pot"] 9 F__law_right := by
  have b_dict := fx.free FH.fi_dict (f := .free "dict") rfl
  have b_len := fx.free FH.fi_len (f := .free "len") rfl
  have b_list := fx.free FH.fi_list (f := .free "list") rfl
  have b_max := fx.free FH.fi_max (f := .free "max") rfl
  have b_min := fx.free FH.fi_min (f := .free "min") rfl
  have b_range := fx.free FH.fi_range (f := .free "range") rfl
  have b_repr := fx.free FH.fi_repr (f := .free "repr") rfl
  have b_sorted := fx.free FH.fi_sorted (f := .free "sorted") rfl
  have b_str := fx.free FH.fi_str (f := .free "str") rfl
  have b_sum := fx.free FH.fi_sum (f := .free "sum") rfl
  have b_tuple := fx.free FH.fi_tuple (f := .free "tuple") rfl
  have b_zip := fx.free FH.fi_zip (f := .free "zip") rfl
  refine okD (N := N__law_right) (ps := ["pot"]) (B := B__law_right) fx 44 69 (x := "_law_right") rfl rfl ⟨rfl, rfl, rfl, by decide +kernel, rfl, by decide +kernel, by decide +kernel⟩ (fun _ _ _ _ _ _ us hl => match us, hl with | [_], _ => rfl) fun P w base cdv A outer s H hr hgu => ?_
  have nd : N__law_right.Nodup := by decide +kernel
  have hu := hr.units
  exact (sss_cons (by first | exact (ss_set nd rfl (by first | exact .inl rfl | exact .inr rfl) (se_lc (ow := [("at", 24)]) rfl nd (si_range1 rfl b_range (sa_cons (se_add se_int (se_call1 (ok__law_take fx) hr (by decide) hgu rfl run_len (sa_cons (se_var 0) (sa_cons se_int sa_nil)))) sa_nil)) (blkOk_by (by kernel_rfl)) (SB.no (fun _ _ _ _ _ => (sg_name nd rfl (by first | exact .inl rfl | exact .inr rfl))) (fun _ _ _ _ _ => (se_add se_str (se_callTy call_str_int oc_str rfl b_str (by decide +kernel) (sa_cons (se_var 24) sa_nil))))) (by decide))) | exact (ss_setLc (ow := [("at", 24)]) rfl nd rfl rfl rfl (si_range1 rfl b_range (sa_cons (se_add se_int (se_call1 (ok__law_take fx) hr (by decide) hgu rfl run_len (sa_cons (se_var 0) (sa_cons se_int sa_nil)))) sa_nil)) (blkOk_by (by kernel_rfl)) (SB.no (fun _ _ _ _ _ => (sg_name nd rfl (by first | exact .inl rfl | exact .inr rfl))) (fun _ _ _ _ _ => (se_add se_str (se_callTy call_str_int oc_str rfl b_str (by decide +kernel) (sa_cons (se_var 24) sa_nil))))) (by decide)))
    (sss_cons (ss_asg (se_tup (sa_cons (se_add se_int (se_call1 (ok__law_take fx) hr (by decide) hgu rfl run_len (sa_cons (se_var 0) (sa_cons se_int sa_nil)))) (sa_cons se_dnewT sa_nil))) (sg_tup rfl (sgs_cons (sg_name nd rfl (by first | exact .inl rfl | exact .inr rfl)) (sgs_cons (sg_name nd rfl (by first | exact .inl rfl | exact .inr rfl)) sgs_nil))))
    (sss_cons (ss_set nd rfl (by first | exact .inl rfl | exact .inr rfl) (se_tup (sa_cons (se_callTy call_tupX (oc_tup _) rfl b_tuple (by decide +kernel) (sa_cons (se_var 1) sa_nil)) (sa_cons (se_callTy call_tupX (oc_tup _) rfl b_tuple (by decide +kernel) (sa_cons (se_lstZip rfl rfl b_list rfl b_zip (sa_cons (se_var 1) (sa_cons (se_sl (se_var 1) (so_some se_int) so_none) sa_nil))) sa_nil)) sa_nil))))
    (sss_cons (ss_for PassesOwn.never rfl (si_seq (se_ixD hu (se_var 4) se_int)) (sg_name nd rfl (by first | exact .inl rfl | exact .inr rfl)) (sss_one (ss_if (st_cmp op_gt o2_B0 (se_call1 (ok__law_take fx) hr (by decide) hgu rfl run_len (sa_cons (se_var 0) (sa_cons se_int sa_nil))) se_int (nomark _)) (sss_one (ss_put hu (se_var 3) (se_var 5) (se_tup (sa_cons (se_call1 (ok__law_phases fx) hr (by decide) hgu rfl run_len (sa_cons (se_var 0) (sa_cons (se_var 2) sa_nil))) (sa_cons (se_add se_int (se_call1 (ok__law_take fx) hr (by decide) hgu rfl run_len (sa_cons (se_var 0) (sa_cons se_int sa_nil)))) sa_nil))))) sss_nil)))
    (sss_cons (ss_set nd rfl (by first | exact .inl rfl | exact .inr rfl) (se_tup (sa_cons (se_var 2) (sa_cons (se_callTy call_tupX (oc_tup _) rfl b_tuple (by decide +kernel) (sa_cons (se_lc (ow := [("way", 5)]) rfl nd (si_seq (se_callB (call_sortX rfl hu) (oc_sort _) rfl b_sorted (by decide +kernel) (sa_cons (se_var 3) sa_nil))) (blkOk_by (by kernel_rfl)) (SB.no (fun _ _ _ _ _ => (sg_name nd rfl (by first | exact .inl rfl | exact .inr rfl))) (fun _ _ _ _ _ => (se_add (se_var 5) (se_ixD hu (se_var 3) (se_var 5))))) (by decide)) sa_nil)) sa_nil))))
    (sss_cons (ss_set nd rfl (by first | exact .inl rfl | exact .inr rfl) (se_call1 (ok__law_take fx) hr (by decide) hgu rfl run_len (sa_cons (se_var 0) (sa_cons se_int sa_nil))))
    (sss_cons (ss_for PassesOwn.never rfl (si_seq (se_ixD hu (se_var 4) se_int)) (sg_name nd rfl (by first | exact .inl rfl | exact .inr rfl)) (sss_cons (ss_set nd rfl (by first | exact .inl rfl | exact .inr rfl) (se_lst sa_nil))
    (sss_cons (ss_for PassesOwn.never rfl (si_range2 rfl b_range (sa_cons (se_var 7) (sa_cons (se_add (se_var 7) (se_var 2)) sa_nil))) (sg_name nd rfl (by first | exact .inl rfl | exact .inr rfl)) (sss_cons (ss_set nd rfl (by first | exact .inl rfl | exact .inr rfl) (se_call1 (ok_set_off fx) hr (by decide) hgu rfl run_len (sa_cons (se_var 4) (sa_cons (se_var 6) (sa_cons (se_ixD hu (se_var 5) se_int) (sa_cons (se_ixD hu (se_var 5) se_int) (sa_cons (se_var 19) sa_nil)))))))
    (sss_cons (ss_if (st_cmp (op_neX hu) (o2_data _ _) (se_callB (call_reprX hgu hu) (oc_repr _) rfl b_repr (by decide +kernel) (sa_cons (se_var 17) sa_nil)) (se_callB (call_reprX hgu hu) (oc_repr _) rfl b_repr (by decide +kernel) (sa_cons (se_call1 (ok__law_goes fx) hr (by decide) hgu rfl run_len (sa_cons (se_var 3) (sa_cons (se_var 2) (sa_cons (se_var 5) (sa_cons (se_var 19) sa_nil))))) sa_nil)) (nomark _)) (sss_one (ss_ret se_bl)) sss_nil)
    (sss_one (ss_expr (se_append (se_var 18) (se_sub (se_ixD hu (se_var 17) se_int) (se_var 19))))))))
    (sss_cons (ss_set nd rfl (by first | exact .inl rfl | exact .inr rfl) (se_if (st_cmp (op_inX hu) (o2_inS _ false) (se_var 5) (se_var 3) (by rfl)) (se_call1 (ok__law_gaps fx) hr (by decide) hgu rfl run_len (sa_cons (se_ixD hu (se_ixD hu (se_var 3) (se_var 5)) se_int) (sa_cons (se_var 2) sa_nil))) (se_mul (se_lst (sa_cons se_int sa_nil)) (se_var 2))))
    (sss_one (ss_if (SW.st (sw_or (st_cmp (op_neX hu) (o2_data _ _) (se_callB (cr_sum rfl) (oc_sum _) rfl b_sum (by decide +kernel) (sa_cons (se_var 20) sa_nil)) (se_var 2) (nomark _)) (sw_or1 (st_cmp (op_neX hu) (o2_data _ _) (se_mul se_int (se_callB (cr_sum rfl) (oc_sum _) rfl b_sum (by decide +kernel) (sa_cons (se_var 18) sa_nil))) (se_callB (cr_sum rfl) (oc_sum _) rfl b_sum (by decide +kernel) (sa_cons (se_lc (ow := [("gap", 25)]) rfl nd (si_seq (se_var 20)) (blkOk_by (by kernel_rfl)) (SB.no (fun _ _ _ _ _ => (sg_name nd rfl (by first | exact .inl rfl | exact .inr rfl))) (fun _ _ _ _ _ => (se_mul (se_var 25) (se_sub (se_var 25) se_int)))) (by decide)) sa_nil)) (nomark _))))) (sss_one (ss_ret se_bl)) sss_nil))))))
    (sss_cons (by first | exact (ss_set nd rfl (by first | exact .inl rfl | exact .inr rfl) (se_lc (ow := [("tick", 19)]) rfl nd (si_range1 rfl b_range (sa_cons (se_var 2) sa_nil)) (blkOk_by (by kernel_rfl)) (SB.no (fun _ _ _ _ _ => (sg_name nd rfl (by first | exact .inl rfl | exact .inr rfl))) (fun _ _ _ _ _ => (se_sub (se_ixD hu (se_call1 (ok__law_trip fx) hr (by decide) hgu rfl run_len (sa_cons (se_var 3) (sa_cons (se_var 2) (sa_cons (se_var 1) (sa_cons (se_var 19) sa_nil))))) se_int) (se_var 19)))) (by decide))) | exact (ss_setLc (ow := [("tick", 19)]) rfl nd rfl rfl rfl (si_range1 rfl b_range (sa_cons (se_var 2) sa_nil)) (blkOk_by (by kernel_rfl)) (SB.no (fun _ _ _ _ _ => (sg_name nd rfl (by first | exact .inl rfl | exact .inr rfl))) (fun _ _ _ _ _ => (se_sub (se_ixD hu (se_call1 (ok__law_trip fx) hr (by decide) hgu rfl run_len (sa_cons (se_var 3) (sa_cons (se_var 2) (sa_cons (se_var 1) (sa_cons (se_var 19) sa_nil))))) se_int) (se_var 19)))) (by decide)))
    (sss_cons (ss_set nd rfl (by first | exact .inl rfl | exact .inr rfl) (se_call1 (ok_gate_table fx) hr (by decide) hgu rfl run_len (sa_cons (se_var 4) (sa_cons (se_var 6) (sa_cons (se_ixD hu (se_var 1) (se_neg se_int)) sa_nil)))))
    (sss_cons (ss_if (SW.st (sw_or (st_cmp (op_neX hu) (o2_data _ _) (se_ixD hu (se_var 9) se_int) (se_callTy call_tupX (oc_tup _) rfl b_tuple (by decide +kernel) (sa_cons (se_var 8) sa_nil)) (nomark _)) (sw_or1 (st_cmp (op_neX hu) (o2_data _ _) (se_ixD hu (se_var 9) (se_neg se_int)) (se_mul (se_tup (sa_cons se_int sa_nil)) (se_var 2)) (nomark _))))) (sss_one (ss_ret se_bl)) sss_nil)
    (sss_cons (ss_par rfl nd rfl rfl (by decide) rfl rfl (sa_cons (se_callB (call_minX rfl hu) (oc_min _) rfl b_min (by decide +kernel) (sa_cons (se_var 8) sa_nil)) (sa_cons (se_callB (call_maxX rfl hu) (oc_max _) rfl b_max (by decide +kernel) (sa_cons (se_var 8) sa_nil)) sa_nil)) (by rfl))
    (sss_cons (ss_set nd rfl (by first | exact .inl rfl | exact .inr rfl) (se_tup (sa_cons (se_tup (sa_cons (se_idxL (se_var 8) (se_var 10)) (sa_cons (se_var 10) sa_nil))) (sa_cons (se_tup (sa_cons (se_idxL (se_var 8) (se_var 11)) (sa_cons (se_var 11) sa_nil))) sa_nil))))
    (sss_cons (ss_if (st_cmp (op_neX hu) (o2_data _ _) (se_callB (call_reprX hgu hu) (oc_repr _) rfl b_repr (by decide +kernel) (sa_cons (se_call1 (ok_phases_told fx) hr (by decide) hgu rfl run_len (sa_cons (se_var 4) (sa_cons (se_var 6) (sa_cons (se_ixD hu (se_var 1) se_int) (sa_cons (se_ixD hu (se_var 1) (se_neg se_int)) sa_nil))))) sa_nil)) (se_callB (call_reprX hgu hu) (oc_repr _) rfl b_repr (by decide +kernel) (sa_cons (se_var 12) sa_nil)) (nomark _)) (sss_one (ss_ret se_bl)) sss_nil)
    (sss_cons (ss_par rfl nd rfl rfl (by decide) rfl rfl (sa_cons se_int (sa_cons (se_callTy (call_dictX rfl) (oc_dictK _) rfl b_dict (by decide +kernel) (sa_cons (se_lc (ow := [("tick", 19)]) rfl nd (si_range1 rfl b_range (sa_cons (se_var 2) sa_nil)) (blkOk_by (by kernel_rfl)) (SB.no (fun _ _ _ _ _ => (sg_name nd rfl (by first | exact .inl rfl | exact .inr rfl))) (fun _ _ _ _ _ => (se_tup (sa_cons (se_var 19) (sa_cons se_int sa_nil))))) (by decide)) sa_nil)) sa_nil)) (by rfl))
    (sss_cons (ss_for PassesOwn.never rfl (si_seq (se_ixD hu (se_var 4) se_int)) (sg_name nd rfl (by first | exact .inl rfl | exact .inr rfl)) (sss_cons (ss_set nd rfl (by first | exact .inl rfl | exact .inr rfl) se_dnewK)
    (sss_cons (ss_lock 14 (ss_for PassesOwn.never rfl (si_items (se_var 14)) (sg_tup rfl (sgs_cons (sg_name nd rfl (by first | exact .inl rfl | exact .inr rfl)) (sgs_cons (sg_name nd rfl (by first | exact .inl rfl | exact .inr rfl)) sgs_nil))) (sss_cons (ss_asg (se_call1 (ok__law_goes fx) hr (by decide) hgu rfl run_len (sa_cons (se_var 3) (sa_cons (se_var 2) (sa_cons (se_var 5) (sa_cons (se_var 19) sa_nil))))) (sg_tup rfl (sgs_cons (sg_name nd rfl (by first | exact .inl rfl | exact .inr rfl)) (sgs_cons (sg_name nd rfl (by first | exact .inl rfl | exact .inr rfl)) sgs_nil))))
    (sss_cons (ss_set nd rfl (by first | exact .inl rfl | exact .inr rfl) (se_add (se_var 13) (se_mul (se_var 22) (se_sub (se_var 16) (se_var 19)))))
    (sss_one (ss_put hu (se_var 21) (se_var 16) (se_add (se_get2 hu (se_var 21) (se_var 16) se_int) (se_var 22))))))))
    (sss_one (ss_set nd rfl (by first | exact .inl rfl | exact .inr rfl) (se_var 21))))))
    (sss_cons (ss_if (SW.st (sw_or (st_cmp (op_neX hu) (o2_data _ _) (se_var 13) (se_callB (cr_sum rfl) (oc_sum _) rfl b_sum (by decide +kernel) (sa_cons (se_var 8) sa_nil)) (nomark _)) (sw_or1 (st_cmp op_ge o2_B0 (se_sub (se_var 11) (se_var 10)) (se_callB (call_maxX rfl hu) (oc_max _) rfl b_max (by decide +kernel) (sa_cons se_int (sa_cons (se_var 2) sa_nil))) (nomark _))))) (sss_one (ss_ret se_bl)) sss_nil)
    (sss_cons (ss_asg (se_call1 (ok__law_trip fx) hr (by decide) hgu rfl run_len (sa_cons (se_var 3) (sa_cons (se_var 2) (sa_cons (se_var 1) (sa_cons (se_var 7) sa_nil))))) (sg_tup rfl (sgs_cons (sg_name nd rfl (by first | exact .inl rfl | exact .inr rfl)) (sgs_cons (sg_name nd rfl (by first | exact .inl rfl | exact .inr rfl)) sgs_nil))))
    (sss_cons (ss_if (st_cmp (op_neX hu) (o2_data _ _) (se_call1 (ok_trip_told fx) hr (by decide) hgu rfl run_len (sa_cons (se_var 4) (sa_cons (se_var 6) (sa_cons (se_ixD hu (se_var 1) se_int) (sa_cons (se_var 7) (sa_cons (se_var 15) sa_nil)))))) (se_tup (sa_cons (se_ixD hu (se_var 1) (se_neg se_int)) (sa_cons (se_var 16) sa_nil))) (nomark _)) (sss_one (ss_ret se_bl)) sss_nil)
    (sss_cons (ss_set nd rfl (by first | exact .inl rfl | exact .inr rfl) (se_call1 (ok_gates_told fx) hr (by decide) hgu rfl run_len (sa_cons (se_var 4) (sa_cons (se_var 6) (sa_cons (se_ixD hu (se_var 1) se_int) (sa_cons (se_ixD hu (se_var 1) (se_neg se_int)) (sa_cons (se_var 7) sa_nil)))))))
    (sss_cons (ss_if (SW.st (sw_or (st_cmp (op_neX hu) (o2_data _ _) (se_callB (call_reprX hgu hu) (oc_repr _) rfl b_repr (by decide +kernel) (sa_cons (se_ixD hu (se_var 17) se_int) sa_nil)) (se_callB (call_reprX hgu hu) (oc_repr _) rfl b_repr (by decide +kernel) (sa_cons (se_sub (se_var 16) (se_var 7)) sa_nil)) (nomark _)) (sw_or1 (st_cmp (op_notN.or op_isnot_bl) o2_isn (se_call1 (ok_shows_gates fx) hr (by decide) hgu rfl run_len (sa_cons (se_var 4) (sa_cons (se_var 6) (sa_cons (se_ixD hu (se_var 1) se_int) (sa_cons (se_ixD hu (se_var 1) (se_neg se_int)) (sa_cons (se_var 7) (sa_cons (se_var 17) sa_nil))))))) se_bl (nomark _))))) (sss_one (ss_ret se_bl)) sss_nil)
    (sss_cons (ss_if (st_cmp (op_notN.or op_isnot_bl) o2_isn (se_call1 (ok_shows_gates fx) hr (by decide) hgu rfl run_len (sa_cons (se_var 4) (sa_cons (se_var 6) (sa_cons (se_ixD hu (se_var 1) se_int) (sa_cons (se_ixD hu (se_var 1) (se_neg se_int)) (sa_cons (se_var 7) (sa_cons (se_add (se_add (se_sl (se_var 17) so_none (so_some se_int)) (se_tup (sa_cons (se_var 15) sa_nil))) (se_sl (se_var 17) (so_some se_int) so_none)) sa_nil))))))) se_bl (nomark _)) (sss_one (ss_ret se_bl)) sss_nil)
    (sss_one (ss_ret (se_if (st_cmp (op_eqX hu) (o2_data _ _) (se_callB call_lenX (oc_len _) rfl b_len (by decide +kernel) (sa_cons (se_var 1) sa_nil)) se_int (nomark _)) (se_cmp (op_eqX hu) (o2_data _ _) (se_call1 (ok_gates_told fx) hr (by decide) hgu rfl run_len (sa_cons (se_var 4) (sa_cons (se_var 6) (sa_cons (se_ixD hu (se_var 1) (se_neg se_int)) (sa_cons (se_ixD hu (se_var 1) se_int) (sa_cons (se_var 7) sa_nil)))))) (se_tup (sa_cons se_str (sa_cons (se_tup (sa_cons (se_ixD hu (se_var 1) (se_neg se_int)) sa_nil)) sa_nil))) (nomark _)) se_bl))))))))))))))))))))))))
def N_law : List Str := ["script", "place"]
def B_law : FS := (fRt (fCB allD (fAc (fLc (fSeqI (fCall F__law_cells (fAc (fvar 0) (fAc (fC (.int 3)) fA0)))) (fNm 1) fYes (fCall F__law_right (fAc (fCall F__law_pot (fAc (fvar 0) (fAc (fvar 1) fA0))) fA0)) [1]) fA0)))
def F_law : FF := run 2 1 B_law
theorem ok_law {K : PySem.W.Frag} {mg : Str → Option Value} (fx : Fx K mg) : Ok K mg "law" ["script"] 10 F_law := by
  have b_all := fx.free FH.fi_all (f := .free "all") rfl
  refine okD (N := N_law) (ps := ["script"]) (B := B_law) fx 45 70 (x := "law") rfl rfl ⟨rfl, rfl, rfl, by decide +kernel, rfl, by decide +kernel, by decide +kernel⟩ (fun _ _ _ _ _ _ us hl => match us, hl with | [_], _ => rfl) fun P w base cdv A outer s H hr hgu => ?_
  have nd : N_law.Nodup := by decide +kernel
  have hu := hr.units
  exact (sss_one (ss_ret (se_callB (cr_all rfl) (oc_all _) rfl b_all (by decide +kernel) (sa_cons (se_lc (ow := [("place", 1)]) rfl nd (si_seq (se_call1 (ok__law_cells fx) hr (by decide) hgu rfl run_len (sa_cons (se_var 0) (sa_cons se_int sa_nil)))) (blkOk_by (by kernel_rfl)) (SB.no (fun _ _ _ _ _ => (sg_name nd rfl (by first | exact .inl rfl | exact .inr rfl))) (fun _ _ _ _ _ => (se_call1 (ok__law_right fx) hr (by decide) hgu rfl run_len (sa_cons (se_call1 (ok__law_pot fx) hr (by decide) hgu rfl run_len (sa_cons (se_var 0) (sa_cons (se_var 1) sa_nil))) sa_nil)))) (by decide)) sa_nil))))
end FL

set_option Elab.async false
set_option linter.all false
set_option maxRecDepth 100000
set_option autoImplicit false
namespace FL
open PySem PySem.Spec PyProof.Rows L2

/-- by a bool -/
def onB {α : Type} (d : D) (x y : Option α) : Option α := match d with
  | .bl true => x
  | .bl false => y
  | _ => none
@[simp] theorem onB_bl {α : Type} (b : Bool) (x y : Option α) : onB (.bl b) x y = if b = true then x else y := by cases b <;> rfl
/-! ## the combinators by their parts -/
section
variable {L : Loc} {s : Sto}
@[simp] theorem e_var (i : Nat) : fvar i L s = (match L[i]? with | some (some d) => some (d, s) | _ => none) := rfl
@[simp] theorem e_C (d : D) : fC d L s = some (d, s) := rfl
@[simp] theorem e_A0 : fA0 L s = some ([], s) := rfl
@[simp] theorem e_Ac (f : FE) (g : FA) : fAc f g L s = (f L s).bind fun p => (g L p.2).bind fun q => some (p.1 :: q.1, q.2) := rfl
@[simp] theorem e_Tup (g : FA) : fTup g L s = (g L s).bind fun q => if q.1.length ≤ sizeLine then some (.tup q.1, q.2) else none := rfl
@[simp] theorem e_Lst (g : FA) : fLst g L s = (g L s).bind fun q => if q.1.length ≤ sizeLine then some (.ref q.2.length, q.2 ++ [.lst q.1]) else none := rfl
@[simp] theorem e_E1 (fo : F1) (f : FE) : fE1 fo f L s = (f L s).bind fun p => fo p.1 p.2 := rfl
@[simp] theorem e_E2 (fo : F2) (f g : FE) : fE2 fo f g L s = (f L s).bind fun p => (g L p.2).bind fun q => fo p.1 q.1 q.2 := rfl
@[simp] theorem e_CB (fo : FF) (g : FA) : fCB fo g L s = (g L s).bind fun q => fo q.1 q.2 := rfl
@[simp] theorem e_Call (F : FF) (g : FA) : fCall F g L s = (g L s).bind fun q => F q.1 q.2 := rfl
@[simp] theorem e_Tb (f : FE) : fTb f L s = (f L s).bind fun p => match p.1 with | .bl b => some (b, p.2) | _ => none := rfl
@[simp] theorem e_Chain (fo fo' : F2) (f g h : FE) : fChain fo fo' f g h L s = (f L s).bind fun p => (g L p.2).bind fun q => (fo p.1 q.1 q.2).bind fun z => onB z.1 ((h L z.2).bind fun w => fo' q.1 w.1 w.2) (some (.bl false, z.2)) := rfl
@[simp] theorem e_And (f g : FT) : fAnd f g L s = (f L s).bind fun p => if p.1 = true then g L p.2 else some (false, p.2) := rfl
@[simp] theorem e_Or (f g : FT) : fOr f g L s = (f L s).bind fun p => if p.1 = true then some (true, p.2) else g L p.2 := rfl
@[simp] theorem e_Not (f : FT) : fNot f L s = (f L s).bind fun p => some (!p.1, p.2) := rfl
@[simp] theorem e_AndV (f g : FE) : fAndV f g L s = (f L s).bind fun p => onB p.1 (g L p.2) (some (.bl false, p.2)) := rfl
@[simp] theorem e_OrV (f g : FE) : fOrV f g L s = (f L s).bind fun p => onB p.1 (some (.bl true, p.2)) (g L p.2) := rfl
@[simp] theorem e_NotV (f : FE) : fNotV f L s = (f L s).bind fun p => match p.1 with | .bl b => some (.bl (!b), p.2) | _ => none := rfl
@[simp] theorem e_If (c : FT) (f g : FE) : fIf c f g L s = (c L s).bind fun p => if p.1 = true then f L p.2 else g L p.2 := rfl
@[simp] theorem e_Yes : fYes L s = some (true, s) := rfl
@[simp] theorem e_Nm (i : Nat) (d : D) : fNm i d L s = some (L.set i (some d), s) := rfl
@[simp] theorem e_G0 : fG0 [] L s = some (L, s) := rfl
@[simp] theorem e_Gc (f : FG) (g : FGs) (d : D) (r : List D) : fGc f g (d :: r) L s = (f d L s).bind fun p => g r p.1 p.2 := rfl
@[simp] theorem e_Gt (n : Nat) (g : FGs) (ds : List D) : fGt n g (.tup ds) L s = if ds.length = n then g ds L s else none := rfl
@[simp] theorem e_GtF (n : Nat) (g : FGs) (ds : List D) : fGt n g (.ft ds) L s = if ds.length = n then g ds L s else none := rfl
@[simp] theorem e_Nx : fNx L s = some (.nx, L, s) := rfl
@[simp] theorem e_Sq (f g : FS) : fSq f g L s = (f L s).bind fun p => match p.1 with | .nx => g p.2.1 p.2.2 | _ => some p := rfl
@[simp] theorem e_Ex (f : FE) : fEx f L s = (f L s).bind fun p => some (.nx, L, p.2) := rfl
@[simp] theorem e_Rt (f : FE) : fRt f L s = (f L s).bind fun p => some (.rt p.1, L, p.2) := rfl
@[simp] theorem e_IfS (c : FT) (f g : FS) : fIfS c f g L s = (c L s).bind fun p => if p.1 = true then f L p.2 else g L p.2 := rfl
@[simp] theorem e_As (f : FE) (g : FG) : fAs f g L s = (f L s).bind fun p => (g p.1 L p.2).bind fun q => some (.nx, q.1, q.2) := rfl
@[simp] theorem e_Bk : fBk L s = some (.bk, L, s) := rfl
@[simp] theorem e_Ct : fCt L s = some (.ct, L, s) := rfl
@[simp] theorem e_No : fNo L s = none := rfl
@[simp] theorem e_Par (i j : Nat) (g : FA) : fPar i j g L s = (g L s).bind fun q => match q.1 with | [a, b] => some (.nx, (L.set i (some a)).set j (some b), q.2) | _ => none := rfl
@[simp] theorem e_Par3 (i j l : Nat) (g : FA) : fPar3 i j l g L s = (g L s).bind fun q => match q.1 with | [a, b, c] => some (.nx, ((L.set i (some a)).set j (some b)).set l (some c), q.2) | _ => none := rfl
@[simp] theorem e_O0 : fO0 L s = some (none, s) := rfl
@[simp] theorem e_O1 (f : FE) : fO1 f L s = (f L s).bind fun p => match p.1 with | .int i => some (some i, p.2) | _ => none := rfl
@[simp] theorem e_Sl (f : FE) (g h : FO) : fSl f g h L s = (f L s).bind fun p => (g L p.2).bind fun q => (h L q.2).bind fun r => slD p.1 q.1 r.1 r.2 := rfl
@[simp] theorem e_M (T : String) (fo : D → List D → Sto → Option (D × Sto)) (fr : FE) (ga : FA) : fM T fo fr ga L s = (fr L s).bind fun p => if tyD T p.2 p.1 = true then (ga L p.2).bind fun q => fo p.1 q.1 q.2 else none := rfl
@[simp] theorem e_DK0 : fDK0 L s = some (.ref s.length, s ++ [.dK []]) := rfl
@[simp] theorem e_DT0 : fDT0 L s = some (.ref s.length, s ++ [.dT []]) := rfl
@[simp] theorem e_Put (fv fo fi : FE) : fPut fv fo fi L s = (fv L s).bind fun p => (fo L p.2).bind fun q => (fi L q.2).bind fun r => (putO q.1 r.1 p.1 r.2).map fun s' => (.nx, L, s') := rfl
end
/-! ## operators of data -/
section
variable {s : Sto}
@[simp] theorem o_add (i j : Int) : addD (.int i) (.int j) s = some (.int (i + j), s) := rfl
@[simp] theorem o_sub (i j : Int) : subD (.int i) (.int j) s = some (.int (i - j), s) := rfl
@[simp] theorem o_mod {i j : Int} (h : 0 < j) : modD (.int i) (.int j) s = some (.int (i % j), s) := by simp [modD, h]
@[simp] theorem o_le (i j : Int) : leD (.int i) (.int j) s = some (.bl (decide (i ≤ j)), s) := rfl
@[simp] theorem o_lt (i j : Int) : ltD (.int i) (.int j) s = some (.bl (decide (i < j)), s) := rfl
@[simp] theorem o_gt (i j : Int) : gtD (.int i) (.int j) s = some (.bl (decide (j < i)), s) := rfl
@[simp] theorem o_ge (i j : Int) : geD (.int i) (.int j) s = some (.bl (decide (j ≤ i)), s) := rfl
/-- == of pure data -/
theorem PL_pure {d : D} (h : d.pure = true) : PL s d = some (d.P, d.dep) := by
  unfold PL
  cases d with
  | ref n => simp [D.pure] at h
  | _ => simp only [h, if_true]
theorem o_eq {x y : D} (hx : x.pure = true) (hy : y.pure = true) (hd : x.dep ≤ 60) : eqD x y s = some (.bl (PyData.eqv x.P y.P), s) := by
  unfold eqD eqv2
  rw [PL_pure hx, PL_pure hy]
  simp only [Option.bind_some]
  rw [if_pos (by omega)]
theorem o_ne {x y : D} (hx : x.pure = true) (hy : y.pure = true) (hd : x.dep ≤ 60) : neD x y s = some (.bl (!PyData.eqv x.P y.P), s) := by
  unfold neD eqv2
  rw [PL_pure hx, PL_pure hy]
  simp only [Option.bind_some]
  rw [if_pos (by omega)]
@[simp] theorem o_eqI (i j : Int) : eqD (.int i) (.int j) s = some (.bl (decide (i = j)), s) := by
  rw [o_eq rfl rfl (by simp [D.dep])]
  simp [D.P, PyData.eqv]
  rfl
@[simp] theorem o_neI (i j : Int) : neD (.int i) (.int j) s = some (.bl (!decide (i = j)), s) := by
  rw [o_ne rfl rfl (by simp [D.dep])]
  simp [D.P, PyData.eqv]
  rfl
@[simp] theorem o_eqS (i j : Str) : eqD (.str i) (.str j) s = some (.bl (decide (i = j)), s) := by
  rw [o_eq rfl rfl (by simp [D.dep])]
  simp [D.P, PyData.eqv]
  rfl
@[simp] theorem o_neS (i j : Str) : neD (.str i) (.str j) s = some (.bl (!decide (i = j)), s) := by
  rw [o_ne rfl rfl (by simp [D.dep])]
  simp [D.P, PyData.eqv]
  rfl
end
/-! ## a call's end: what lies above is forgotten -/
theorem kept_app {n : Nat} : ∀ (s r : Sto), kept n s (s ++ r) = true
  | [], _ => rfl
  | a :: s, r => by simp [kept, O.beq_self, kept_app s r]
theorem kept_self {n : Nat} (s : Sto) : kept n s s = true := by simpa using kept_app s []
@[simp] theorem gc_self (s : Sto) (d : D) : gc s d s = (d, s) := by
  unfold gc
  split <;> simp
theorem gc_app {s r : Sto} {d : D} (h : d.low s.length = true) : gc s d (s ++ r) = (d, s) := by
  unfold gc
  rw [h, kept_app]
  simp
@[simp] theorem gc_appB (s r : Sto) (b : Bool) : gc s (.bl b) (s ++ r) = (.bl b, s) := gc_app rfl
@[simp] theorem gc_appI (s r : Sto) (b : Int) : gc s (.int b) (s ++ r) = (.int b, s) := gc_app rfl
@[simp] theorem gc_appN (s r : Sto) : gc s .non (s ++ r) = (.non, s) := gc_app rfl
mutual
theorem D.low_pure {n : Nat} : ∀ {d : D}, d.pure = true → d.low n = true
  | .non, _ => rfl
  | .bl _, _ => rfl
  | .int _, _ => rfl
  | .str _, _ => rfl
  | .ty _, _ => rfl
  | .ref _, h => by simp [D.pure] at h
  | .tup ds, h => by
    simp only [D.pure] at h
    simp only [D.low]
    exact D.lows_pure h
  | .ft ds, h => by
    simp only [D.pure] at h
    simp only [D.low]
    exact D.lows_pure h
theorem D.lows_pure {n : Nat} : ∀ {ds : List D}, D.pures ds = true → D.lows n ds = true
  | [], _ => rfl
  | d :: ds, h => by
    simp only [D.pures, Bool.and_eq_true] at h
    simp [D.lows, D.low_pure h.1, D.lows_pure h.2]
end
/-! ## built-ins -/
section
variable {s : Sto}
@[simp] theorem b_isi (x : D) (T : String) : isiD [x, .ty T] s = if T ∈ ["int", "bool", "str", "tuple", "list", "dict"] then (tnD s x).map fun t => (.bl (t == T || (t == "bool" && T == "int")), s) else none := rfl
@[simp] theorem t_int (i : Int) : tnD s (.int i) = some "int" := rfl
@[simp] theorem t_bl (i : Bool) : tnD s (.bl i) = some "bool" := rfl
@[simp] theorem t_str (i : Str) : tnD s (.str i) = some "str" := rfl
@[simp] theorem t_tup (i : List D) : tnD s (.tup i) = some "tuple" := rfl
@[simp] theorem t_ft (i : List D) : tnD s (.ft i) = some "tuple" := rfl
@[simp] theorem t_non : tnD s .non = some "NoneType" := rfl
@[simp] theorem b_lenT (i : List D) : lenD [.tup i] s = some (.int i.length, s) := rfl
@[simp] theorem b_lenF (i : List D) : lenD [.ft i] s = some (.int i.length, s) := rfl
theorem b_lenL {n : Nat} {i : List D} (h : s[n]? = some (.lst i)) : lenD [.ref n] s = some (.int i.length, s) := by simp [lenD, seqOf, h]
theorem b_lenR {n : Nat} {i : List D} (h : s[n]? = some (.rol i)) : lenD [.ref n] s = some (.int i.length, s) := by simp [lenD, seqOf, h]
end
end FL

set_option Elab.async false
set_option linter.all false
set_option maxRecDepth 100000
set_option autoImplicit false
namespace FL
open PySem PySem.Spec PyProof.Rows L2

/-! ## the store only grows -/
def Gr (s t : Sto) : Prop := ∃ r, t = s ++ r
theorem Gr.refl (s : Sto) : Gr s s := ⟨[], by simp⟩
theorem Gr.trans {s t u : Sto} (a : Gr s t) (b : Gr t u) : Gr s u := by
  obtain ⟨r, rfl⟩ := a
  obtain ⟨q, rfl⟩ := b
  exact ⟨r ++ q, by simp⟩
theorem Gr.app (s r : Sto) : Gr s (s ++ r) := ⟨r, rfl⟩
theorem Gr.at {s t : Sto} (a : Gr s t) {n : Nat} {o : O} (h : s[n]? = some o) : t[n]? = some o := by
  obtain ⟨r, rfl⟩ := a
  rw [List.getElem?_append_left (List.getElem?_eq_some_iff.mp h).1, h]
theorem Gr.len {s t : Sto} (a : Gr s t) : s.length ≤ t.length := by
  obtain ⟨r, rfl⟩ := a
  simp
theorem Gr.fin {s t : Sto} (a : Gr s t) {d : D} (h : d.low s.length = true) : gc s d t = (d, s) := by
  obtain ⟨r, rfl⟩ := a
  exact gc_app h
theorem Gr.finP {s t : Sto} (a : Gr s t) {d : D} (h : d.pure = true) : gc s d t = (d, s) := a.fin (D.low_pure h)
/-- what lies above the base may be written -/
theorem Gr.set {s t : Sto} (a : Gr s t) {k : Nat} (h : s.length ≤ k) (o : O) : Gr s (t.set k o) := by
  obtain ⟨r, rfl⟩ := a
  rw [List.set_append_right _ _ h]
  exact ⟨_, rfl⟩
theorem stands_of {cs : List (Nat × O)} {s : Sto} (h : ∀ c ∈ cs, s[c.1]? = some c.2) : stands cs s = true := by
  unfold stands
  rw [List.all_eq_true]
  intro c hc
  rw [h c hc]
  exact O.beq_self _
theorem stands_nil {s : Sto} : stands [] s = true := rfl

/-! ## a comprehension whose items are pure -/
structure Elt (fg : FG) (ft : FT) (fe : FE) (L : Loc) (base : Sto) (keep : D → Bool) (val : D → D) (d : D) : Prop where
  ex : ∃ L', (∀ s, fg d L s = some (L', s)) ∧ ∀ s, Gr base s → ∃ s1, ft L' s = some (keep d, s1) ∧ Gr s s1 ∧ (keep d = true → ∃ s2, fe L' s1 = some (val d, s2) ∧ Gr s1 s2)
theorem lcl_eval {fg : FG} {ft : FT} {fe : FE} {L : Loc} {base : Sto} {keep : D → Bool} {val : D → D} {chk : List (Nat × O)} (hc : ∀ c ∈ chk, base[c.1]? = some c.2) : ∀ (items acc : List D) (s : Sto), (∀ d ∈ items, Elt fg ft fe L base keep val d) →
    Gr base s → s[base.length]? = some (.lst acc) → acc.length + items.length ≤ sizeLine → ∃ t, fLcl fg ft fe chk base.length L items s = some t ∧ Gr base t ∧ t[base.length]? = some (.lst (acc ++ (items.filter keep).map val))
  | [], acc, s, _, g, ha, _ => by
    refine ⟨s, ?_, g, by simpa using ha⟩
    rw [fLcl, stands_of fun c hc' => g.at (hc c hc'), if_pos rfl]
  | d :: items, acc, s, h, g, ha, hz => by
    obtain ⟨L', h1, h2⟩ := (h d (List.mem_cons_self ..)).ex
    obtain ⟨s1, e1, g1, h3⟩ := h2 s g
    rw [fLcl, stands_of fun c hc' => g.at (hc c hc'), if_pos rfl, h1]
    simp only [Option.bind_some, e1]
    by_cases hk : keep d = true
    · obtain ⟨s2, e2, g2⟩ := h3 hk
      have gg := (g.trans g1).trans g2
      have hat : s2[base.length]? = some (.lst acc) := (g1.trans g2).at ha
      simp only [hk, if_true, e2, Option.bind_some, hat]
      rw [if_pos (by simp at hz; omega)]
      have hlt : base.length < s2.length := (List.getElem?_eq_some_iff.mp hat).1
      obtain ⟨t, t1, t2, t3⟩ := lcl_eval hc items (acc ++ [val d]) (s2.set base.length (.lst (acc ++ [val d]))) (fun d hd => h d (List.mem_cons_of_mem _ hd)) (gg.set (Nat.le_refl _) _) (List.getElem?_set_self hlt) (by simp at hz ⊢; omega)
      exact ⟨t, t1, t2, by rw [t3, List.filter_cons_of_pos hk]; simp⟩
    · have hk' : keep d = false := by simpa using hk
      simp only [hk', Bool.false_eq_true, if_false]
      obtain ⟨t, t1, t2, t3⟩ := lcl_eval hc items acc s1 (fun d hd => h d (List.mem_cons_of_mem _ hd)) (g.trans g1) (g1.at ha) (by simp at hz ⊢; omega)
      exact ⟨t, t1, t2, by rw [t3, List.filter_cons_of_neg hk]⟩
theorem lc_eval {fi : FI} {fg : FG} {ft : FT} {fe : FE} {vs : List Nat} {L : Loc} {s s0 : Sto} {items : List D} {chk : List (Nat × O)} (keep : D → Bool) (val : D → D) (h : fi L s = some (⟨items, chk⟩, s0)) (hc : ∀ c ∈ chk, s0[c.1]? = some c.2)
    (hE : ∀ d ∈ items, Elt fg ft fe (wipeL L vs) s0 keep val d) (hz : items.length ≤ sizeLine) : ∃ t, fLc fi fg ft fe vs L s = some (.ref s0.length, t) ∧ Gr s0 t ∧ t[s0.length]? = some (.lst ((items.filter keep).map val)) := by
  obtain ⟨t, t1, t2, t3⟩ := lcl_eval (chk := chk) hc items [] (s0 ++ [.lst []]) hE (Gr.app _ _) (by simp) (by simpa using hz)
  refine ⟨t, ?_, t2, by simpa using t3⟩
  unfold fLc
  rw [h]
  simp only [Option.bind_some, t1]
/-- no test -/
theorem lc_map {fi : FI} {fg : FG} {fe : FE} {vs : List Nat} {L : Loc} {s s0 : Sto} {items : List D} {chk : List (Nat × O)} (val : D → D) (h : fi L s = some (⟨items, chk⟩, s0)) (hc : ∀ c ∈ chk, s0[c.1]? = some c.2)
    (hE : ∀ d ∈ items, ∃ L', (∀ s, fg d (wipeL L vs) s = some (L', s)) ∧ ∀ s, Gr s0 s → ∃ s2, fe L' s = some (val d, s2) ∧ Gr s s2) (hz : items.length ≤ sizeLine) :
    ∃ t, fLc fi fg fYes fe vs L s = some (.ref s0.length, t) ∧ Gr s0 t ∧ t[s0.length]? = some (.lst (items.map val)) := by
  obtain ⟨t, t1, t2, t3⟩ := lc_eval (fg := fg) (ft := fYes) (fe := fe) (vs := vs) (fun _ => true) val h hc (fun d hd => ⟨by
    obtain ⟨L', h1, h2⟩ := hE d hd
    refine ⟨L', h1, fun s g => ⟨s, rfl, Gr.refl _, fun _ => ?_⟩⟩
    exact h2 s g⟩) hz
  refine ⟨t, t1, t2, ?_⟩
  rw [List.filter_eq_self.mpr fun _ _ => rfl] at t3
  exact t3
/-- all, any of a list just made -/
theorem all_eval {t : Sto} {k : Nat} {items : List D} {p : D → Bool} (h : t[k]? = some (.lst (items.map fun d => .bl (p d)))) : allD [.ref k] t = some (.bl (items.all p), t) := by
  have e : blsD (items.map fun d => .bl (p d)) = some (items.map p) := by
    clear h
    induction items with
    | nil => rfl
    | cons d r ih => simp only [List.map_cons, blsD, ih, Option.map_some]
  simp [allD, onBls, lstD, h, e]
theorem any_eval {t : Sto} {k : Nat} {items : List D} {p : D → Bool} (h : t[k]? = some (.lst (items.map fun d => .bl (p d)))) : anyD [.ref k] t = some (.bl (items.any p), t) := by
  have e : blsD (items.map fun d => .bl (p d)) = some (items.map p) := by
    clear h
    induction items with
    | nil => rfl
    | cons d r ih => simp only [List.map_cons, blsD, ih, Option.map_some]
  simp [anyD, onBls, lstD, h, e]
end FL
namespace FL
open PySem PySem.Spec PyProof.Rows L2
@[simp] theorem Gr.gB {s t : Sto} (a : Gr s t) (b : Bool) : gc s (.bl b) t = (.bl b, s) := a.fin rfl
@[simp] theorem Gr.gI {s t : Sto} (a : Gr s t) (b : Int) : gc s (.int b) t = (.int b, s) := a.fin rfl
@[simp] theorem Gr.gN {s t : Sto} (a : Gr s t) : gc s .non t = (.non, s) := a.fin rfl
def D.toI : D → Int
  | .int i => i
  | _ => 0
@[simp] theorem toI_int (i : Int) : (D.int i).toI = i := rfl
def D.toS : D → Str
  | .str i => i
  | _ => ""
@[simp] theorem toS_str (i : Str) : (D.str i).toS = i := rfl
/-- the parts of a pair -/
def D.p1 : D → D
  | .tup (a :: _) => a
  | _ => .non
def D.p2 : D → D
  | .tup (_ :: b :: _) => b
  | _ => .non
@[simp] theorem p1_tup (a : D) (r : List D) : (D.tup (a :: r)).p1 = a := rfl
@[simp] theorem p2_tup (a b : D) (r : List D) : (D.tup (a :: b :: r)).p2 = b := rfl
@[simp] theorem i_seqT (i : Nat) {L : Loc} {s : Sto} {ds : List D} (h : L[i]? = some (some (.tup ds))) : fSeqI (fvar i) L s = some (⟨ds, []⟩, s) := by simp [fSeqI, h, seqI]
@[simp] theorem i_seqF (i : Nat) {L : Loc} {s : Sto} {ds : List D} (h : L[i]? = some (some (.ft ds))) : fSeqI (fvar i) L s = some (⟨ds, []⟩, s) := by simp [fSeqI, h, seqI]
/-- in a tuple of numbers, of texts -/
theorem anyI (i : Int) : ∀ ns : List Int, ((D.Ps (ns.map .int)).any fun z => PyData.eqv z (D.int i).P) = decide (i ∈ ns)
  | [] => rfl
  | n :: ns => by
    rw [List.map_cons, D.Ps, List.any_cons, anyI i ns]
    show ((n == i) || decide (i ∈ ns)) = _
    by_cases h : i = n
    · simp [h]
    · have : ¬ n = i := fun e => h e.symm
      simp [h, this]
theorem anyS (i : Str) : ∀ ns : List Str, ((D.Ps (ns.map .str)).any fun z => PyData.eqv z (D.str i).P) = decide (i ∈ ns)
  | [] => rfl
  | n :: ns => by
    rw [List.map_cons, D.Ps, List.any_cons, anyS i ns]
    show ((n == i) || decide (i ∈ ns)) = _
    by_cases h : i = n
    · simp [h]
    · have : ¬ n = i := fun e => h e.symm
      simp [h, this]
theorem pures_int : ∀ ns : List Int, D.pures (ns.map .int) = true
  | [] => rfl
  | n :: ns => by simp [D.pures, D.pure, pures_int ns]
theorem pures_str : ∀ ns : List Str, D.pures (ns.map .str) = true
  | [] => rfl
  | n :: ns => by simp [D.pures, D.pure, pures_str ns]
theorem deps_int : ∀ ns : List Int, D.deps (ns.map .int) = 0
  | [] => rfl
  | n :: ns => by simp [D.deps, D.dep, deps_int ns]
theorem deps_str : ∀ ns : List Str, D.deps (ns.map .str) = 0
  | [] => rfl
  | n :: ns => by simp [D.deps, D.dep, deps_str ns]
@[simp] theorem in_int (i : Int) (ns : List Int) (s : Sto) : inD (.int i) (.ft (ns.map .int)) s = some (.bl (decide (i ∈ ns)), s) := by
  simp only [inD, inS, pures_int, deps_int, D.pure, Bool.and_self, Nat.zero_le, Nat.zero_min, decide_true, if_true, anyI]
  simp
@[simp] theorem in_str (i : Str) (ns : List Str) (s : Sto) : inD (.str i) (.ft (ns.map .str)) s = some (.bl (decide (i ∈ ns)), s) := by
  simp only [inD, inS, pures_str, deps_str, D.pure, Bool.and_self, Nat.zero_le, Nat.zero_min, decide_true, if_true, anyS]
  simp
@[simp] theorem notIn_str (i : Str) (ns : List Str) (s : Sto) : notInD (.str i) (.ft (ns.map .str)) s = some (.bl (!decide (i ∈ ns)), s) := by
  simp only [notInD, inS, pures_str, deps_str, D.pure, Bool.and_self, Nat.zero_le, Nat.zero_min, decide_true, if_true, anyS]
/-- subscripts -/
theorem ix_T {ds : List D} {i : Int} {d : D} (h : L2.atI ds i = some d) (s : Sto) : ixD (.tup ds) (.int i) s = some (d, s) := by simp [ixD, seqOf, h]
theorem ix_F {ds : List D} {i : Int} {d : D} (h : L2.atI ds i = some d) (s : Sto) : ixD (.ft ds) (.int i) s = some (d, s) := by simp [ixD, seqOf, h]
end FL

set_option Elab.async false
set_option linter.all false
set_option maxRecDepth 100000
set_option autoImplicit false
namespace FL
open PySem PySem.Spec PyProof.Rows L2
theorem f_is_integer (n : Int) (s : Sto) : F_is_integer [.int n] s = some (.bl true, s) := by
  simp [F_is_integer, B_is_integer, run, startL]
theorem f_is_between (n lo hi : Int) (s : Sto) : F_is_between [.int n, .int lo, .int hi] s = some (.bl (decide (lo ≤ n) && decide (n ≤ hi)), s) := by
  by_cases h : lo ≤ n <;> simp [F_is_between, B_is_between, run, startL, f_is_integer, h]
theorem f_is_tuple_of (ds : List D) (k : Int) (s : Sto) : F_is_tuple_of [.tup ds, .int k] s = some (.bl (decide ((ds.length : Int) = k)), s) := by
  simp [F_is_tuple_of, B_is_tuple_of, run, startL]
theorem f_is_tuple_ofF (ds : List D) (k : Int) (s : Sto) : F_is_tuple_of [.ft ds, .int k] s = some (.bl (decide ((ds.length : Int) = k)), s) := by
  simp [F_is_tuple_of, B_is_tuple_of, run, startL]
theorem f_are_between (ns : List Int) (hz : ns.length ≤ sizeLine) (lo hi : Int) (s : Sto) : F_are_between [.ft (ns.map .int), .int lo, .int hi] s = some (.bl (ns.all fun n => decide (lo ≤ n) && decide (n ≤ hi)), s) := by
  have key := lc_map (fi := fSeqI (fvar 0)) (fg := fNm 3) (fe := fCall F_is_between (fAc (fvar 3) (fAc (fvar 1) (fAc (fvar 2) fA0)))) (vs := [3]) (L := [some (.ft (ns.map .int)), some (.int lo), some (.int hi), none]) (s := s) (s0 := s) (items := ns.map .int) (chk := [])
    (fun d => .bl (decide (lo ≤ d.toI) && decide (d.toI ≤ hi))) (by simp [fSeqI, seqI]) (by simp) (fun d hd => ⟨_, fun _ => rfl, fun s' g => ⟨s', by
      obtain ⟨n, hn, rfl⟩ := List.mem_map.mp hd
      simp [wipeL, f_is_between]
      try rfl, Gr.refl _⟩⟩) (by simpa using hz)
  obtain ⟨t, h1, h2, h3⟩ := key
  have h4 := all_eval h3
  simp [F_are_between, B_are_between, run, startL, h1, h4, h2]
  rfl
/-! ### names -/
def lettersS : Str := "abcdefghijklmnopqrstuvwxyz"
def figuresS : Str := "0123456789"
theorem chr_in (c : Nat) (z : Str) (s : Sto) : inD (.str ⟨#[c]⟩) (.str z) s = some (.bl (decide (c ∈ z.cps.toList)), s) := by
  simp [inD, inS]
theorem chr_notIn (c : Nat) (z : Str) (s : Sto) : notInD (.str ⟨#[c]⟩) (.str z) s = some (.bl (!decide (c ∈ z.cps.toList)), s) := by
  simp [notInD, inS]
def D.c0 : D → Nat
  | .str z => z.cps.toList.headD 0
  | _ => 0
theorem sum_signs : addD (.str lettersS) (.str figuresS) = fun s => some (.str (lettersS ++ figuresS), s) := by
  funext s
  unfold addD
  simp only
  rw [if_pos (by decide +kernel)]
theorem f_is_name (z : Str) (c : Nat) (r : List Nat) (hz : z.cps.toList = c :: r) (hl : r.length ≤ 5) (hc : c ∈ lettersS.cps.toList) (hr : ∀ x ∈ c :: r, x ∈ (lettersS ++ figuresS).cps.toList) (s : Sto) : F_is_name_of [.str z] s = some (.bl true, s) := by
  have hlen : z.length = r.length + 1 := by
    show z.cps.size = _
    rw [← Array.length_toList, hz]
    rfl
  have hlen2 : z.length ≤ sizeLine := by rw [hlen, sizeLine_eq]; omega
  have e1 : lenD [.str z] s = some (.int z.length, s) := by simp [lenD, hlen2]
  have e2 : ixD (.str z) (.int 0) s = some (.str ⟨#[c]⟩, s) := by
    simp [ixD, hlen2, hz, L2.atI, L2.ixN]
  have key := lc_map (fi := fSeqI (fvar 0)) (fg := fNm 1) (fe := fE2 inD (fvar 1) (fE2 addD (fC (.str "abcdefghijklmnopqrstuvwxyz")) (fC (.str "0123456789")))) (vs := [1]) (L := [some (.str z), none]) (s := s) (s0 := s) (items := z.cps.toList.map fun c => .str ⟨#[c]⟩) (chk := [])
    (fun d => .bl (decide (d.c0 ∈ (lettersS ++ figuresS).cps.toList))) (by simp [fSeqI, seqI]) (by simp) (fun d hd => ⟨_, fun _ => rfl, fun s' g => ⟨s', by
      obtain ⟨n, hn, rfl⟩ := List.mem_map.mp hd
      have e := congrFun sum_signs s'
      simp only [lettersS, figuresS] at e
      simp [wipeL, e, chr_in, D.c0, lettersS, figuresS], Gr.refl _⟩⟩) (by rw [List.length_map, hz, sizeLine_eq]; simp; omega)
  obtain ⟨t, h1, h2, h3⟩ := key
  have h4 := all_eval h3
  have h5 : ((z.cps.toList.map fun c => D.str ⟨#[c]⟩).all fun d => decide (d.c0 ∈ (lettersS ++ figuresS).cps.toList)) = true := by
    rw [List.all_map, List.all_eq_true]
    intro x hx
    rw [hz] at hx
    exact decide_eq_true (hr x hx)
  rw [h5] at h4
  have hl6 : (z.length : Int) ≤ 6 := by omega
  have hl1 : (1 : Int) ≤ z.length := by omega
  have hc' : c ∈ ("abcdefghijklmnopqrstuvwxyz" : Str).cps.toList := hc
  simp [F_is_name_of, B_is_name_of, run, startL, e1, e2, hl1, hl6, chr_notIn, hc', h1, h4, h2]
/-! ### ascending -/
theorem cut_tail {α : Type} (xs : List α) : cutD xs (some 1) none = xs.tail := by
  unfold cutD
  cases xs with
  | nil => simp
  | cons x xs =>
    have e1 : HT.sIx (x :: xs).length 0 (some 1) = 1 := by
      simp [HT.sIx]
    have e2 : HT.sIx (x :: xs).length (x :: xs).length none = (x :: xs).length := by
      simp [HT.sIx]
    rw [e1, e2]
    simp
theorem zipT_mem {xs ys : List D} {d : D} (h : d ∈ zipT xs ys) : ∃ a b, a ∈ xs ∧ b ∈ ys ∧ d = .tup [a, b] := by
  obtain ⟨i, hi⟩ := List.mem_iff_getElem?.mp h
  unfold zipT at hi
  rw [List.getElem?_zipWith] at hi
  split at hi
  · rename_i a b e1 e2
    exact ⟨a, b, List.mem_of_getElem? e1, List.mem_of_getElem? e2, (Option.some.inj hi).symm⟩
  · cases hi
theorem zipT_len (xs ys : List D) : (zipT xs ys).length = min xs.length ys.length := by simp [zipT]
/-- the comparison of all next ones -/
def ascB (lt : D → D → Bool) (xs : List D) : Bool := (zipT xs (xs.tail)).all fun d => lt d.p1 d.p2
theorem f_asc_F (xs : List D) (lt : D → D → Bool) (h : ∀ a b s, a ∈ xs → b ∈ xs → ltD a b s = some (.bl (lt a b), s)) (hz : xs.length ≤ sizeLine) (s : Sto) : F_is_ascending [.ft xs] s = some (.bl (ascB lt xs), s) := by
  have e1 : fZip (fAc (fvar 0) (fAc (fSl (fvar 0) (fO1 (fC (.int 1))) fO0) fA0)) [some (.ft xs), none, none] s = some (⟨zipT xs (xs.tail), []⟩, s) := by
    by_cases hw : wholeB xs.length (some 1) none = true
    · have : xs = [] := by
        cases xs with
        | nil => rfl
        | cons a b => simp [wholeB, HT.sIx] at hw
      subst this
      have hw' : wholeB 0 (some 1) none = true := hw
      simp [fZip, slD, zipF, seqK, hw', zipT]
    · simp [fZip, slD, zipF, seqK, hw, cut_tail]
  obtain ⟨t, h1, h2, h3⟩ := lc_map (fi := fZip (fAc (fvar 0) (fAc (fSl (fvar 0) (fO1 (fC (.int 1))) fO0) fA0))) (fg := fGt 2 (fGc (fNm 1) (fGc (fNm 2) fG0))) (fe := fE2 ltD (fvar 1) (fvar 2)) (vs := [1, 2]) (L := [some (.ft xs), none, none]) (s := s) (s0 := s) (chk := [])
    (fun d => .bl (lt d.p1 d.p2)) e1 (by simp) (fun d hd => by
      obtain ⟨a, b, ha, hb, rfl⟩ := zipT_mem hd
      refine ⟨_, fun _ => rfl, fun s' g => ⟨s', ?_, Gr.refl _⟩⟩
      simp [wipeL, h a b s' ha (List.mem_of_mem_tail hb)]) (by rw [zipT_len]; omega)
  have h4 := all_eval h3
  simp [F_is_ascending, B_is_ascending, run, startL, h1, h4, h2]
  rfl
theorem f_asc_L (xs : List D) (lt : D → D → Bool) (h : ∀ a b s, a ∈ xs → b ∈ xs → ltD a b s = some (.bl (lt a b), s)) (hz : xs.length ≤ sizeLine) (n : Nat) (s : Sto) (hn : s[n]? = some (.lst xs)) : F_is_ascending [.ref n] s = some (.bl (ascB lt xs), s) := by
  have hl : n < s.length := (List.getElem?_eq_some_iff.mp hn).1
  have e1 : fZip (fAc (fvar 0) (fAc (fSl (fvar 0) (fO1 (fC (.int 1))) fO0) fA0)) [some (.ref n), none, none] s = some (⟨zipT xs (xs.tail), [(n, .lst xs), (s.length, .lst (xs.tail))]⟩, s ++ [.lst (xs.tail)]) := by
    have g1 : (s ++ [O.lst (xs.tail)])[n]? = some (.lst xs) := by rw [List.getElem?_append_left hl, hn]
    simp [fZip, slD, zipF, seqK, hn, cut_tail, g1]
  obtain ⟨t, h1, h2, h3⟩ := lc_map (fi := fZip (fAc (fvar 0) (fAc (fSl (fvar 0) (fO1 (fC (.int 1))) fO0) fA0))) (fg := fGt 2 (fGc (fNm 1) (fGc (fNm 2) fG0))) (fe := fE2 ltD (fvar 1) (fvar 2)) (vs := [1, 2]) (L := [some (.ref n), none, none]) (s := s) (s0 := s ++ [.lst (xs.tail)])
    (fun d => .bl (lt d.p1 d.p2)) e1 (by
      intro c hc
      simp only [List.mem_cons, List.not_mem_nil, or_false] at hc
      rcases hc with rfl | rfl
      · rw [List.getElem?_append_left hl, hn]
      · simp) (fun d hd => by
      obtain ⟨a, b, ha, hb, rfl⟩ := zipT_mem hd
      refine ⟨_, fun _ => rfl, fun s' g => ⟨s', ?_, Gr.refl _⟩⟩
      simp [wipeL, h a b s' ha (List.mem_of_mem_tail hb)]) (by rw [zipT_len]; omega)
  have h4 := all_eval h3
  have hlen : (s ++ [O.lst xs.tail]).length = s.length + 1 := by simp
  rw [hlen] at h1 h4
  have h2' := (Gr.app s [.lst (xs.tail)]).trans h2
  simp [F_is_ascending, B_is_ascending, run, startL, h1, h4, h2']
  rfl
/-! ### names, floors -/
structure IsNm (z : Str) : Prop where
  ex : ∃ c r, z.cps.toList = c :: r ∧ r.length ≤ 5 ∧ c ∈ lettersS.cps.toList ∧ ∀ x ∈ c :: r, x ∈ (lettersS ++ figuresS).cps.toList
theorem IsNm.f {z : Str} (h : IsNm z) (s : Sto) : F_is_name_of [.str z] s = some (.bl true, s) := by
  obtain ⟨c, r, h1, h2, h3, h4⟩ := h.ex
  exact f_is_name z c r h1 h2 h3 h4 s
theorem names_eval (ds : List D) (v : D) (hv : v = .tup ds ∨ v = .ft ds) (h : ∀ d ∈ ds, ∃ z, d = .str z ∧ IsNm z) (hz : ds.length ≤ sizeLine) (s : Sto) : F_are_names [v] s = some (.bl true, s) := by
  have e1 : fSeqI (fvar 0) [some v, none] s = some (⟨ds, []⟩, s) := by
    rcases hv with rfl | rfl
    · simp [fSeqI, seqI]
    · simp [fSeqI, seqI]
  obtain ⟨t, h1, h2, h3⟩ := lc_map (fi := fSeqI (fvar 0)) (fg := fNm 1) (fe := fCall F_is_name_of (fAc (fvar 1) fA0)) (vs := [1]) (L := [some v, none]) (s := s) (s0 := s) (chk := [])
    (fun d => .bl true) e1 (by simp) (fun d hd => by
      obtain ⟨z, rfl, q⟩ := h d hd
      refine ⟨_, fun _ => rfl, fun s' g => ⟨s', ?_, Gr.refl _⟩⟩
      simp [wipeL, q.f]) hz
  have h4 := all_eval (p := fun _ => true) h3
  have e2 : tnD s v = some "tuple" := by rcases hv with rfl | rfl <;> rfl
  simp [F_are_names, B_are_names, run, startL, e2, h1, h4, h2]
theorem f_pair {a b : Str} (ha : IsNm a) (hb : IsNm b) (s : Sto) : F_is_pair_of_names [.tup [.str a, .str b]] s = some (.bl true, s) := by
  have e := names_eval [.str a, .str b] (.tup [.str a, .str b]) (.inl rfl) (by
    intro d hd
    simp only [List.mem_cons, List.not_mem_nil, or_false] at hd
    rcases hd with rfl | rfl
    · exact ⟨a, rfl, ha⟩
    · exact ⟨b, rfl, hb⟩) (by show 2 ≤ sizeLine; decide) s
  simp [F_is_pair_of_names, B_is_pair_of_names, run, startL, e]
end FL

set_option Elab.async false
set_option linter.all false
set_option maxRecDepth 100000
set_option autoImplicit false
namespace FL
open PySem PySem.Spec PyProof.Rows L2
/-! ### the row of cells -/
def nm (i : Nat) : Str := ("c" : Str) ++ ((toString (i : Int) : String) : Str)
theorem nm_cps : ∀ i, i < 6 → (nm i).cps.toList = [99, 48 + i] := by decide +kernel
theorem nm_ok {i : Nat} (h : i < 6) : IsNm (nm i) := by
  refine ⟨99, [48 + i], nm_cps i h, by simp, by decide +kernel, ?_⟩
  have key : ∀ i, i < 6 → ∀ x ∈ [99, 48 + i], x ∈ (lettersS ++ figuresS).cps.toList := by decide +kernel
  exact key i h
theorem nm_lt {i j : Nat} (hi : i < 6) (hj : j < 6) : decide ((nm i).cps.toList < (nm j).cps.toList) = decide (i < j) := by
  have key : ∀ i, i < 6 → ∀ j, j < 6 → decide ((nm i).cps.toList < (nm j).cps.toList) = decide (i < j) := by decide +kernel
  exact key i hi j hj
theorem nm_inj {i j : Nat} (hi : i < 6) (hj : j < 6) (h : nm i = nm j) : i = j := by
  have e := congrArg (fun z : Str => z.cps.toList) h
  simp only [nm_cps i hi, nm_cps j hj] at e
  simp at e
  exact e
def cl (i : Nat) : D := .str (nm i)
def wy (i : Nat) : D := .tup [cl i, cl (i + 1)]
def cells (m : Nat) : List D := (List.range m).map cl
def ways (m : Nat) : List D := (List.range (m - 1)).map wy
def flo (m : Nat) : D := .tup [.ft (cells m), .ft (ways m)]
theorem zip_next (f : Nat → D) (n : Nat) : zipT ((List.range n).map f) ((List.range n).map f).tail = (List.range (n - 1)).map fun i => .tup [f i, f (i + 1)] := by
  refine List.ext_getElem? fun i => ?_
  unfold zipT
  rw [List.getElem?_zipWith, List.getElem?_map, List.getElem?_map, List.getElem?_tail, List.getElem?_map]
  by_cases h : i < n - 1
  · rw [List.getElem?_range (by omega), List.getElem?_range (by omega), List.getElem?_range (by omega)]
    simp
  · rw [List.getElem?_eq_none (l := List.range (n - 1)) (by simp; omega), List.getElem?_eq_none (l := List.range n) (i := i + 1) (by simp; omega)]
    cases (List.range n)[i]? <;> rfl
theorem zip_cells (m : Nat) : zipT (cells m) (cells m).tail = ways m := zip_next cl m
theorem asc_range (f : Nat → D) (lt : D → D → Bool) (n : Nat) (h : ∀ i, i + 1 < n → lt (f i) (f (i + 1)) = true) : ascB lt ((List.range n).map f) = true := by
  unfold ascB
  rw [zip_next, List.all_map, List.all_eq_true]
  intro i hi
  rw [List.mem_range] at hi
  exact h i (by omega)
def ltS (a b : D) : Bool := decide (a.toS.cps.toList < b.toS.cps.toList)
theorem ltS_eq (a b : Str) (s : Sto) : ltD (.str a) (.str b) s = some (.bl (ltS (.str a) (.str b)), s) := rfl
/-- pairs of texts -/
def ltP (a b : D) : Bool := W.dataLt a.P b.P
theorem ltP_eq (a b c d : Str) (s : Sto) : ltD (.tup [.str a, .str b]) (.tup [.str c, .str d]) s = some (.bl (ltP (.tup [.str a, .str b]) (.tup [.str c, .str d])), s) := by
  unfold ltD
  simp only
  rw [if_pos (by simp [D.pures, D.pure, D.Ps, D.P, W.alikeAll, W.alike, D.deps, D.dep])]
  rfl
theorem ltP_val (a b c d : Str) : ltP (.tup [.str a, .str b]) (.tup [.str c, .str d]) = if a = c then (if b = d then false else decide (b.cps.toList < d.cps.toList)) else decide (a.cps.toList < c.cps.toList) := by
  unfold ltP
  simp only [D.P, D.Ps]
  rw [W.dataLt_pair (by simp [W.alike]) (by simp [W.alike]), W.dataLt_str, W.dataLt_str]
  have e1 : ∀ x y : Str, (PyData.eqv (.str x) (.str y) = true) ↔ x = y := fun x y => by
    show ((x == y) = true) ↔ _
    simp
  by_cases h1 : a = c
  · by_cases h2 : b = d
    · simp [h1, h2, e1]
    · simp [h1, h2, e1]
  · simp [h1, e1]
theorem ltP_wy {i j : Nat} (hi : i < 5) (hj : j < 5) : ltP (wy i) (wy j) = decide (i < j) := by
  unfold wy cl
  rw [ltP_val]
  by_cases h : i = j
  · subst h
    simp
  · have h1 : nm i ≠ nm j := fun e => h (nm_inj (by omega) (by omega) e)
    rw [if_neg h1, nm_lt (by omega) (by omega)]
theorem cells_ok {m : Nat} (hm : m ≤ 6) : ∀ d ∈ cells m, ∃ z, d = .str z ∧ IsNm z := by
  intro d hd
  obtain ⟨i, hi, rfl⟩ := List.mem_map.mp hd
  rw [List.mem_range] at hi
  exact ⟨nm i, rfl, nm_ok (by omega)⟩
theorem cells_str (m : Nat) : cells m = ((List.range m).map nm).map .str := by simp [cells, cl]
/-- all( .. ) of a comprehension -/
theorem allc {fi : FI} {fg : FG} {fe : FE} {vs : List Nat} {L : Loc} {s : Sto} {items : List D} (p : D → Bool) (h : fi L s = some (⟨items, []⟩, s))
    (hE : ∀ d ∈ items, ∃ L', (∀ s, fg d (wipeL L vs) s = some (L', s)) ∧ ∀ s', Gr s s' → ∃ s2, fe L' s' = some (.bl (p d), s2) ∧ Gr s' s2) (hz : items.length ≤ sizeLine) :
    ∃ t r, fLc fi fg fYes fe vs L s = some (.ref r, t) ∧ allD [.ref r] t = some (.bl (items.all p), t) ∧ Gr s t := by
  obtain ⟨t, h1, h2, h3⟩ := lc_map (fg := fg) (fe := fe) (vs := vs) (fun d => .bl (p d)) h (by simp) hE hz
  have h4 := all_eval h3
  exact ⟨t, _, h1, h4, h2⟩
theorem anyc {fi : FI} {fg : FG} {fe : FE} {vs : List Nat} {L : Loc} {s : Sto} {items : List D} (p : D → Bool) (h : fi L s = some (⟨items, []⟩, s))
    (hE : ∀ d ∈ items, ∃ L', (∀ s, fg d (wipeL L vs) s = some (L', s)) ∧ ∀ s', Gr s s' → ∃ s2, fe L' s' = some (.bl (p d), s2) ∧ Gr s' s2) (hz : items.length ≤ sizeLine) :
    ∃ t r, fLc fi fg fYes fe vs L s = some (.ref r, t) ∧ anyD [.ref r] t = some (.bl (items.any p), t) ∧ Gr s t := by
  obtain ⟨t, h1, h2, h3⟩ := lc_map (fg := fg) (fe := fe) (vs := vs) (fun d => .bl (p d)) h (by simp) hE hz
  have h4 := any_eval h3
  exact ⟨t, _, h1, h4, h2⟩
theorem in_cells {m i : Nat} (h : i < m) (s : Sto) : inD (cl i) (.ft (cells m)) s = some (.bl true, s) := by
  rw [cells_str]
  unfold cl
  rw [in_str, decide_eq_true]
  exact List.mem_map.mpr ⟨i, List.mem_range.mpr h, rfl⟩
theorem wmem {m : Nat} {d : D} (hd : d ∈ ways m) : ∃ i, i < m - 1 ∧ d = wy i := by
  obtain ⟨i, hi, rfl⟩ := List.mem_map.mp hd
  rw [List.mem_range] at hi
  exact ⟨i, hi, rfl⟩
theorem f_floor {m : Nat} (h1 : 1 ≤ m) (hm : m ≤ 6) (s : Sto) : F_is_floor_of [flo m] s = some (.bl true, s) := by
  have hs : sizeLine = 16777216 := sizeLine_eq
  have lc : (cells m).length = m := by simp [cells]
  have lw : (ways m).length = m - 1 := by simp [ways]
  have a1 := names_eval (cells m) (.ft (cells m)) (.inr rfl) (cells_ok hm) (by rw [lc]; omega)
  have a2 := f_asc_F (cells m) ltS (fun a b s ha hb => by
    obtain ⟨x, rfl, _⟩ := cells_ok hm a ha
    obtain ⟨y, rfl, _⟩ := cells_ok hm b hb
    rfl) (by rw [lc]; omega)
  have b2 : ascB ltS (cells m) = true := asc_range cl ltS m fun i hi => by
    have := nm_lt (i := i) (j := i + 1) (by omega) (by omega)
    simpa [ltS, cl] using this
  have a3 := f_asc_F (ways m) ltP (fun a b s ha hb => by
    obtain ⟨x, _, rfl⟩ := wmem ha
    obtain ⟨y, _, rfl⟩ := wmem hb
    exact ltP_eq _ _ _ _ s) (by rw [lw]; omega)
  have b3 : ascB ltP (ways m) = true := asc_range wy ltP (m - 1) fun i hi => by
    rw [ltP_wy (by omega) (by omega)]
    simp
  rw [b2] at a2
  rw [b3] at a3
  have i1 : ∀ s, ixD (flo m) (.int 0) s = some (.ft (cells m), s) := fun s => ix_T rfl s
  have i2 : ∀ s, ixD (flo m) (.int 1) s = some (.ft (ways m), s) := fun s => ix_T rfl s
  have c1 : ∀ s, F_is_tuple_of [flo m, .int 2] s = some (.bl true, s) := fun s => f_is_tuple_of _ _ s
  have k1 := fun (s : Sto) => allc (fi := fSeqI (fvar 2)) (fg := fNm 5) (fe := fCall F_is_pair_of_names (fAc (fvar 5) fA0)) (vs := [5]) (L := [some (flo m), some (.ft (cells m)), some (.ft (ways m)), none, none, none]) (s := s) (items := ways m)
    (fun d => true) (by simp [fSeqI, seqI]) (fun d hd => by
      obtain ⟨i, hi, rfl⟩ := wmem hd
      refine ⟨_, fun _ => rfl, fun s' g => ⟨s', ?_, Gr.refl _⟩⟩
      have := f_pair (nm_ok (i := i) (by omega)) (nm_ok (i := i + 1) (by omega)) s'
      simpa [wipeL, wy, cl] using this) (by rw [lw]; omega)
  have k2 := fun (s : Sto) => allc (fi := fSeqI (fvar 2)) (fg := fGt 2 (fGc (fNm 3) (fGc (fNm 4) fG0))) (fe := fAndV (fE2 inD (fvar 3) (fvar 1)) (fAndV (fE2 inD (fvar 4) (fvar 1)) (fE2 neD (fvar 3) (fvar 4)))) (vs := [3, 4]) (L := [some (flo m), some (.ft (cells m)), some (.ft (ways m)), none, none, none]) (s := s) (items := ways m)
    (fun d => true) (by simp [fSeqI, seqI]) (fun d hd => by
      obtain ⟨i, hi, rfl⟩ := wmem hd
      refine ⟨_, fun _ => rfl, fun s' g => ⟨s', ?_, Gr.refl _⟩⟩
      have n1 : nm i ≠ nm (i + 1) := fun e => absurd (nm_inj (by omega) (by omega) e) (by omega)
      have e1 := in_cells (m := m) (i := i) (by omega) s'
      have e2 := in_cells (m := m) (i := i + 1) (by omega) s'
      unfold cl at e1 e2
      simp [wipeL, wy, cl, e1, e2, n1]) (by rw [lw]; omega)
  obtain ⟨t1, r1, k1, q1, g1⟩ := k1 s
  obtain ⟨t2, r2, k2, q2, g2⟩ := k2 t1
  have g := g1.trans g2
  have hm1 : (1 : Int) ≤ m := by omega
  have hm24 : (m : Int) ≤ 24 := by omega
  have hm120 : ¬ (120 : Int) < ((m - 1 : Nat) : Int) := by omega
  have e3 : fGt 2 (fGc (fNm 1) (fGc (fNm 2) fG0)) (flo m) [some (flo m), none, none, none, none, none] s = some ([some (flo m), some (.ft (cells m)), some (.ft (ways m)), none, none, none], s) := rfl
  simp [F_is_floor_of, B_is_floor_of, run, startL, c1, i1, i2, a1, e3, lc, lw, hm1, hm24, hm120, a2, a3, k1, k2, q1, q2, g]
end FL

set_option Elab.async false
set_option linter.all false
set_option maxRecDepth 100000
set_option autoImplicit false
namespace FL
open PySem PySem.Spec PyProof.Rows L2
/-! ### the gates -/
structure Wd where
  m : Nat
  R : Nat
  g : Nat → Option (List Int × Int)
structure PhOk (R : Nat) (z : List Int × Int) : Prop where
  ne : z.1 ≠ []
  rng : ∀ x ∈ z.1, 0 ≤ x ∧ x < (R : Int)
  asc : z.1.Pairwise (· < ·)
  len : z.1.length ≤ 12
  k1 : 1 ≤ z.2
  k9 : z.2 ≤ 9
structure Wd.Ok (w : Wd) : Prop where
  m2 : 2 ≤ w.m
  m6 : w.m ≤ 6
  r1 : 1 ≤ w.R
  r12 : w.R ≤ 12
  ph : ∀ i z, w.g i = some z → PhOk w.R z
def gt (i : Nat) (z : List Int × Int) : D := .tup [cl i, cl (i + 1), .ft (z.1.map .int), .int z.2]
def gv (z : List Int × Int) : D := .tup [.ft (z.1.map .int), .int z.2]
def ky (i : Nat) : List Key := [.inr (nm i), .inr (nm (i + 1))]
def pick {α : Type} (w : Wd) (f : Nat → List Int × Int → α) : List α := (List.range (w.m - 1)).filterMap fun i => (w.g i).map (f i)
def gates (w : Wd) : D := .tup [.int w.R, .ft (pick w gt)]
def kn (w : Wd) : List (List Key × D) := pick w fun i z => (ky i, gv z)
theorem pick_mem {α : Type} {w : Wd} {f : Nat → List Int × Int → α} {a : α} (h : a ∈ pick w f) : ∃ i z, i < w.m - 1 ∧ w.g i = some z ∧ a = f i z := by
  unfold pick at h
  obtain ⟨i, hi, e⟩ := List.mem_filterMap.mp h
  rw [List.mem_range] at hi
  rcases hg : w.g i with _ | z
  · rw [hg] at e; cases e
  · rw [hg] at e
    exact ⟨i, z, hi, hg, (Option.some.inj e).symm⟩
theorem pick_map {α β : Type} (w : Wd) (f : Nat → List Int × Int → α) (h : α → β) : (pick w f).map h = pick w fun i z => h (f i z) := by
  unfold pick
  rw [List.map_filterMap]
  congr 1
  funext i
  cases w.g i <;> rfl
theorem pick_len {α : Type} (w : Wd) (f : Nat → List Int × Int → α) : (pick w f).length ≤ w.m - 1 := by
  have := List.length_filterMap_le (fun i => (w.g i).map (f i)) (List.range (w.m - 1))
  simpa [pick] using this
theorem in_pure {x : D} {ds : List D} (hx : x.pure = true) (hp : D.pures ds = true) (hd : D.deps ds ≤ 60) (s : Sto) : inD x (.ft ds) s = some (.bl ((D.Ps ds).any fun z => PyData.eqv z x.P), s) ∧ notInD x (.ft ds) s = some (.bl (!(D.Ps ds).any fun z => PyData.eqv z x.P), s) := by
  have : min (D.deps ds) x.dep ≤ 60 := by omega
  constructor <;> simp [inD, notInD, inS, hx, hp, this]
theorem ways_pure (l : List Nat) : D.pures (l.map wy) = true ∧ D.deps (l.map wy) ≤ 1 := by
  induction l with
  | nil => exact ⟨rfl, by simp [D.deps]⟩
  | cons i l ih =>
    have e : (wy i).dep = 1 := rfl
    constructor
    · simp [D.pures, D.pure, wy, cl, ih.1]
    · have := ih.2
      simp only [List.map_cons, D.deps, e]
      omega
theorem eqv_wy (i j : Nat) (hi : i < 5) (hj : j < 5) : PyData.eqv (wy i).P (wy j).P = decide (i = j) := by
  unfold wy cl
  simp only [D.P, D.Ps]
  have key : ∀ i, i < 5 → ∀ j, j < 5 → PyData.eqv (.tuple [.str (nm i), .str (nm (i + 1))]) (.tuple [.str (nm j), .str (nm (j + 1))]) = decide (i = j) := by decide +kernel
  exact key i hi j hj
theorem Ps_map {α : Type} (f : α → D) : ∀ l : List α, D.Ps (l.map f) = l.map fun a => (f a).P
  | [] => rfl
  | a :: l => by rw [List.map_cons, D.Ps, Ps_map f l, List.map_cons]
theorem way_in {m i : Nat} (h : i < m - 1) (hm : m ≤ 6) (s : Sto) : notInD (wy i) (.ft (ways m)) s = some (.bl false, s) := by
  have := ways_pure (List.range (m - 1))
  have e0 := (in_pure (x := wy i) (ds := ways m) rfl this.1 (by have := this.2; unfold ways; omega) s).2
  rw [e0]
  have e : ((D.Ps (ways m)).any fun z => PyData.eqv z (wy i).P) = true := by
    unfold ways
    rw [Ps_map, List.any_map, List.any_eq_true]
    exact ⟨i, List.mem_range.mpr h, by simp [eqv_wy i i (by omega) (by omega)]⟩
  rw [e]
  rfl
def ltN (a b : D) : Bool := decide (a.toI < b.toI)
theorem asc_pw {lt : D → D → Bool} : ∀ {xs : List D}, xs.Pairwise (fun a b => lt a b = true) → ascB lt xs = true
  | [], _ => rfl
  | [_], _ => rfl
  | a :: b :: r, h => by
    have h1 := List.rel_of_pairwise_cons h (List.mem_cons_self ..)
    have h2 := asc_pw (List.Pairwise.of_cons h)
    unfold ascB at h2 ⊢
    simp only [List.tail_cons, zipT, List.zipWith_cons_cons, List.all_cons, p1_tup, p2_tup] at h2 ⊢
    rw [h1]
    simpa [zipT] using h2
theorem f_gate {w : Wd} (o : w.Ok) {i : Nat} (hi : i < w.m - 1) {z : List Int × Int} (hz : w.g i = some z) (s : Sto) : F_is_gate [flo w.m, .int w.R, gt i z] s = some (.bl true, s) := by
  have q := o.ph i z hz
  have hs : sizeLine = 16777216 := sizeLine_eq
  have m6 := o.m6
  have c1 : ∀ s, F_is_tuple_of [gt i z, .int 4] s = some (.bl true, s) := fun s => f_is_tuple_of _ _ s
  have c2 : ∀ s, slD (gt i z) none (some 2) s = some (wy i, s) := fun s => rfl
  have c3 : ∀ s, F_is_pair_of_names [wy i] s = some (.bl true, s) := fun s => f_pair (nm_ok (by omega)) (nm_ok (by omega)) s
  have i1 : ∀ s, ixD (flo w.m) (.int 1) s = some (.ft (ways w.m), s) := fun s => ix_T rfl s
  have c4 := fun s => way_in hi o.m6 s
  have i2 : ∀ s, ixD (gt i z) (.int 2) s = some (.ft (z.1.map .int), s) := fun s => ix_T rfl s
  have i3 : ∀ s, ixD (gt i z) (.int (-1)) s = some (.int z.2, s) := fun s => ix_T rfl s
  have c5 := fun s => f_are_between z.1 (by have := q.len; omega) 0 ((w.R : Int) - 1) s
  have b5 : (z.1.all fun n => decide ((0 : Int) ≤ n) && decide (n ≤ (w.R : Int) - 1)) = true := by
    rw [List.all_eq_true]
    intro x hx
    have := q.rng x hx
    rw [decide_eq_true this.1, decide_eq_true (by omega)]
    rfl
  have c6 : ∀ s, eqD (.ft (z.1.map .int)) (.tup []) s = some (.bl false, s) := fun s => by
    rw [o_eq (by simp only [D.pure]; exact pures_int _) rfl (by simp only [D.dep, deps_int]; omega)]
    have := q.ne
    revert this
    rcases z.1 with _ | ⟨a, r⟩
    · intro h; exact absurd rfl h
    · intro _
      simp [D.P, D.Ps, PyData.eqv]
      try rfl
  have c7 := fun s => f_asc_F (z.1.map .int) ltN (fun a b s ha hb => by
    obtain ⟨x, _, rfl⟩ := List.mem_map.mp ha
    obtain ⟨y, _, rfl⟩ := List.mem_map.mp hb
    rfl) (by rw [List.length_map]; have := q.len; omega) s
  have b7 : ascB ltN (z.1.map .int) = true := asc_pw (by
    rw [List.pairwise_map]
    exact q.asc.imp fun h => decide_eq_true h)
  rw [b5] at c5
  rw [b7] at c7
  have c8 := f_is_between z.2 1 9
  have k1 := q.k1
  have k9 := q.k9
  simp [F_is_gate, B_is_gate, run, startL, c1, c2, c3, i1, c4, i2, c5, c6, c7, i3, c8, k1, k9, negD]
end FL

set_option Elab.async false
set_option linter.all false
set_option maxRecDepth 100000
set_option autoImplicit false
namespace FL
open PySem PySem.Spec PyProof.Rows L2
def D.hd2 : D → D
  | .tup (a :: b :: _) => .tup [a, b]
  | d => d
def D.tl2 : D → D
  | .tup (_ :: _ :: r) => .tup r
  | d => d
theorem pick_pw {α : Type} (w : Wd) (f : Nat → List Int × Int → α) (R : α → α → Prop) (h : ∀ i j z y, i < j → j < w.m - 1 → w.g i = some z → w.g j = some y → R (f i z) (f j y)) : (pick w f).Pairwise R := by
  unfold pick
  rw [List.pairwise_filterMap]
  refine List.Pairwise.imp_of_mem ?_ List.pairwise_lt_range
  intro i j hi hj hij b hb c hc
  rw [List.mem_range] at hi hj
  rcases hg : w.g i with _ | z
  · rw [hg] at hb; cases hb
  · rcases hk : w.g j with _ | y
    · rw [hk] at hc; cases hc
    · rw [hg] at hb
      rw [hk] at hc
      cases hb
      cases hc
      exact h i j z y hij hj hg hk
theorem f_gates {w : Wd} (o : w.Ok) (s : Sto) : F_are_gates_of [flo w.m, gates w] s = some (.bl true, s) := by
  have hs : sizeLine = 16777216 := sizeLine_eq
  have m6 := o.m6
  have c1 : ∀ s, F_is_tuple_of [gates w, .int 2] s = some (.bl true, s) := fun s => f_is_tuple_of _ _ s
  have i0 : ∀ s, ixD (gates w) (.int 0) s = some (.int w.R, s) := fun s => ix_T rfl s
  have i1 : ∀ s, ixD (gates w) (.int 1) s = some (.ft (pick w gt), s) := fun s => ix_T rfl s
  have c2 := f_is_between w.R 1 12
  have r1 : (1 : Int) ≤ w.R := by have := o.r1; omega
  have r12 : (w.R : Int) ≤ 12 := by have := o.r12; omega
  have hl := pick_len w gt
  obtain ⟨t1, n1, k1, q1, g1⟩ := allc (fi := fSeqI (fE2 ixD (fvar 1) (fC (.int 1)))) (fg := fNm 2) (fe := fCall F_is_gate (fAc (fvar 0) (fAc (fE2 ixD (fvar 1) (fC (.int 0))) (fAc (fvar 2) fA0)))) (vs := [2]) (L := [some (flo w.m), some (gates w), none]) (s := s) (items := pick w gt)
    (fun d => true) (by simp [fSeqI, seqI, i1]) (fun d hd => by
      obtain ⟨i, z, hi, hz, rfl⟩ := pick_mem hd
      refine ⟨_, fun _ => rfl, fun s' g => ⟨s', ?_, Gr.refl _⟩⟩
      simp [wipeL, i0, f_gate o hi hz]) (by omega)
  obtain ⟨t2, k2, g2, h2⟩ := lc_map (fi := fSeqI (fE2 ixD (fvar 1) (fC (.int 1)))) (fg := fNm 2) (fe := fSl (fvar 2) fO0 (fO1 (fC (.int 2)))) (vs := [2]) (L := [some (flo w.m), some (gates w), none]) (s := t1) (s0 := t1) (items := pick w gt) (chk := [])
    D.hd2 (by simp [fSeqI, seqI, i1]) (by simp) (fun d hd => by
      obtain ⟨i, z, hi, hz, rfl⟩ := pick_mem hd
      exact ⟨_, fun _ => rfl, fun s' g => ⟨s', rfl, Gr.refl _⟩⟩) (by omega)
  have e2 : (pick w gt).map D.hd2 = pick w fun i _ => wy i := pick_map w gt D.hd2
  rw [e2] at h2
  have k3 := f_asc_L (pick w fun i _ => wy i) ltP (fun a b s ha hb => by
    obtain ⟨i, z, hi, hz, rfl⟩ := pick_mem ha
    obtain ⟨j, y, hj, hy, rfl⟩ := pick_mem hb
    exact ltP_eq _ _ _ _ s) (by have := pick_len w fun i _ => wy i; omega) _ t2 h2
  have b3 : ascB ltP (pick w fun i _ => wy i) = true := asc_pw (pick_pw w _ _ fun i j z y hij hj _ _ => by
    rw [ltP_wy (by omega) (by omega)]
    simpa using hij)
  rw [b3] at k3
  have g := g1.trans g2
  simp [F_are_gates_of, B_are_gates_of, run, startL, c1, i0, i1, c2, r1, r12, k1, q1, k2, k3, g]
theorem f_check_floor {m : Nat} (h1 : 1 ≤ m) (hm : m ≤ 6) (s : Sto) : F_check_floor [flo m] s = some (flo m, s) := by
  have p : (flo m).low s.length = true := D.low_pure (by
    have e1 : D.pures (cells m) = true := by rw [cells_str]; exact pures_str _
    have e2 := (ways_pure (List.range (m - 1))).1
    simp only [flo, D.pure, D.pures, e1, Bool.true_and, Bool.and_true]
    exact e2)
  have e := (Gr.refl s).fin p
  simp [F_check_floor, B_check_floor, run, startL, f_floor h1 hm, e]
theorem f_check_cell {m i : Nat} (h : i < m) (s : Sto) : F_check_cell [flo m, cl i] s = some (.non, s) := by
  have i1 : ∀ s, ixD (flo m) (.int 0) s = some (.ft (cells m), s) := fun s => ix_T rfl s
  have e : ∀ s, notInD (cl i) (.ft (cells m)) s = some (.bl false, s) := fun s => by
    rw [cells_str]
    unfold cl
    rw [notIn_str, decide_eq_true]
    · rfl
    · exact List.mem_map.mpr ⟨i, List.mem_range.mpr h, rfl⟩
  have t : tnD s (cl i) = some "str" := rfl
  simp [F_check_cell, B_check_cell, run, startL, i1, e, t]
theorem f_check_cells {m i j : Nat} (hm : m ≤ 6) (hi : i < m) (hj : j < m) (s : Sto) : F_check_cells [flo m, cl i, cl j] s = some (.non, s) := by
  simp [F_check_cells, B_check_cells, run, startL, f_check_floor (m := m) (by omega) hm, f_check_cell hi, f_check_cell hj]
theorem f_check_gates {w : Wd} (o : w.Ok) (s : Sto) : F_check_gates [flo w.m, gates w] s = some (.non, s) := by
  simp [F_check_gates, B_check_gates, run, startL, f_check_floor (m := w.m) (by have := o.m2; omega) o.m6, f_gates o]
theorem f_check_ends {w : Wd} (o : w.Ok) {i j : Nat} (hi : i < w.m) (hj : j < w.m) (s : Sto) : F_check_ends [flo w.m, gates w, cl i, cl j] s = some (.non, s) := by
  simp [F_check_ends, B_check_ends, run, startL, f_check_gates o, f_check_cells o.m6 hi hj]
theorem f_check_tick {t : Int} (h0 : 0 ≤ t) (h1 : t ≤ 9999) (s : Sto) : F_check_tick [.int t] s = some (.non, s) := by
  simp [F_check_tick, B_check_tick, run, startL, f_is_between, h0, h1]
/-! ### the dict of gates -/
theorem pairs_pick (w : Wd) : ∀ l : List Nat, pairsT (l.filterMap fun i => (w.g i).map fun z => D.tup [wy i, gv z]) = some (l.filterMap fun i => (w.g i).map fun z => (ky i, gv z))
  | [] => rfl
  | i :: l => by
    rcases h : w.g i with _ | z
    · simp [h, pairs_pick w l]
    · simp only [List.filterMap_cons, h, Option.map_some]
      have e : pairsT (D.tup [wy i, gv z] :: l.filterMap fun i => (w.g i).map fun z => D.tup [wy i, gv z]) = (keysD [cl i, cl (i + 1)]).bind fun k => (pairsT (l.filterMap fun i => (w.g i).map fun z => D.tup [wy i, gv z])).map fun t => (k, gv z) :: t := rfl
      rw [e, pairs_pick w l]
      rfl
theorem ky_inj {i j : Nat} (hi : i < 5) (hj : j < 5) (h : ky i = ky j) : i = j := by
  unfold ky at h
  injection h with h1 _
  injection h1 with h1
  exact nm_inj (by omega) (by omega) h1
theorem kn_nodup {w : Wd} (o : w.Ok) : ((kn w).map (·.1)).Nodup := by
  unfold kn
  rw [pick_map]
  refine pick_pw w _ _ fun i j z y hij hj _ _ e => ?_
  have m6 := o.m6
  exact absurd (ky_inj (by omega) (by omega) e) (by omega)
theorem val_pick (w : Wd) {i : Nat} (hi : i < 5) : ∀ l : List Nat, (∀ j ∈ l, j < 5) → i ∈ l → valD (l.filterMap fun i => (w.g i).map fun z => (ky i, gv z)) (ky i) = (w.g i).map gv
  | [], _, h => by cases h
  | j :: l, hl, h => by
    by_cases e : i = j
    · subst e
      rcases hg : w.g i with _ | z
      · simp only [List.filterMap_cons, hg, Option.map_none]
        by_cases h2 : i ∈ l
        · rw [val_pick w hi l (fun j hj => hl j (List.mem_cons_of_mem _ hj)) h2, hg]
          rfl
        · have key : ∀ l : List Nat, (∀ j ∈ l, j < 5) → i ∉ l → valD (l.filterMap fun i => (w.g i).map fun z => (ky i, gv z)) (ky i) = none := by
            intro l
            induction l with
            | nil => intro _ _; rfl
            | cons a l ih =>
              intro ha hn
              have ih' := ih (fun j hj => ha j (List.mem_cons_of_mem _ hj)) (fun q => hn (List.mem_cons_of_mem _ q))
              rcases hg : w.g a with _ | z
              · simpa [hg] using ih'
              · have : ¬ ky a = ky i := fun e => hn (by rw [ky_inj (ha a (List.mem_cons_self ..)) hi e]; exact List.mem_cons_self ..)
                simp only [List.filterMap_cons, hg, Option.map_some, valD, if_neg this]
                exact ih'
          rw [key l (fun j hj => hl j (List.mem_cons_of_mem _ hj)) h2]
      · simp [hg, valD]
    · have h2 : i ∈ l := by
        rcases List.mem_cons.mp h with rfl | h
        · exact absurd rfl e
        · exact h
      have ih := val_pick w hi l (fun j hj => hl j (List.mem_cons_of_mem _ hj)) h2
      rcases hg : w.g j with _ | z
      · simpa [hg] using ih
      · have : ¬ ky j = ky i := fun q => e (ky_inj hi (hl j (List.mem_cons_self ..)) q.symm)
        simp only [List.filterMap_cons, hg, Option.map_some, valD, if_neg this]
        exact ih
theorem kn_val {w : Wd} (o : w.Ok) {i : Nat} (hi : i < w.m - 1) : valD (kn w) (ky i) = (w.g i).map gv := by
  have m6 := o.m6
  exact val_pick w (by omega) _ (fun j hj => by rw [List.mem_range] at hj; omega) (List.mem_range.mpr hi)
theorem f_known {w : Wd} (o : w.Ok) (s : Sto) : ∃ k t, F_known_gates [gates w] s = some (.ref k, t) ∧ Gr s t ∧ s.length ≤ k ∧ t[k]? = some (.dT (kn w)) := by
  have hs : sizeLine = 16777216 := sizeLine_eq
  have m6 := o.m6
  have i1 : ∀ s, ixD (gates w) (.int 1) s = some (.ft (pick w gt), s) := fun s => ix_T rfl s
  have hl := pick_len w gt
  obtain ⟨t2, k2, g2, h2⟩ := lc_map (fi := fSeqI (fE2 ixD (fvar 0) (fC (.int 1)))) (fg := fNm 1) (fe := fTup (fAc (fSl (fvar 1) fO0 (fO1 (fC (.int 2)))) (fAc (fSl (fvar 1) (fO1 (fC (.int 2))) fO0) fA0))) (vs := [1]) (L := [some (gates w), none]) (s := s) (s0 := s) (items := pick w gt) (chk := [])
    (fun d => .tup [d.hd2, d.tl2]) (by simp [fSeqI, seqI, i1]) (by simp) (fun d hd => by
      obtain ⟨i, z, hi, hz, rfl⟩ := pick_mem hd
      refine ⟨_, fun _ => rfl, fun s' g => ⟨s', ?_, Gr.refl _⟩⟩
      have e1 : slD (gt i z) none (some 2) s' = some ((gt i z).hd2, s') := rfl
      have e2 : slD (gt i z) (some 2) none s' = some ((gt i z).tl2, s') := rfl
      simp [wipeL, e1, e2, hs]) (by omega)
  have e2 : (pick w gt).map (fun d => D.tup [d.hd2, d.tl2]) = pick w fun i z => D.tup [wy i, gv z] := pick_map w gt _
  rw [e2] at h2
  have e3 : pairsT (pick w fun i z => D.tup [wy i, gv z]) = some (kn w) := pairs_pick w _
  have e4 : dictTD [.ref s.length] t2 = some (.ref t2.length, t2 ++ [.dT (kn w)]) := by
    have hk : (kn w).length ≤ sizeLine := by have := pick_len w fun i z => (ky i, gv z); unfold kn; omega
    simp [dictTD, lstD, h2, e3, kn_nodup o, hk]
  have hlen := g2.len
  refine ⟨t2.length, t2 ++ [.dT (kn w)], ?_, g2.trans (Gr.app _ _), hlen, by simp⟩
  have e5 : gc s (.ref t2.length) (t2 ++ [.dT (kn w)]) = (.ref t2.length, t2 ++ [.dT (kn w)]) := by
    unfold gc
    rw [if_neg]
    simp [D.low]
    omega
  simp [F_known_gates, B_known_gates, run, startL, k2, e4, e5]
/-- the known gates stand in the store -/
def Kn (w : Wd) (k : Nat) (s : Sto) : Prop := (s[k]?).map unlk = some (.dT (kn w)) 
theorem Kn.get {w : Wd} (o : w.Ok) {k : Nat} {s : Sto} (h : Kn w k s) {i : Nat} (hi : i < w.m - 1) : dget s k (wy i) = some ((w.g i).map gv) := by
  have e : dget s k (wy i) = (keysD [cl i, cl (i + 1)]).map (valD (kn w)) := by
    unfold dget
    rw [h]
    rfl
  rw [e, ← kn_val o hi]
  rfl
theorem Kn.notL {w : Wd} {k : Nat} {s : Sto} (h : Kn w k s) : ∀ ds, s[k]? ≠ some (.lst ds) ∧ s[k]? ≠ some (.rol ds) ∧ s[k]? ≠ some (.lk (.lst ds)) := by
  intro ds
  unfold Kn at h
  refine ⟨fun e => ?_, fun e => ?_, fun e => ?_⟩ <;> · rw [e] at h; simp [unlk] at h
theorem Kn.inn {w : Wd} (o : w.Ok) {k : Nat} {s : Sto} (h : Kn w k s) {i : Nat} (hi : i < w.m - 1) : inD (wy i) (.ref k) s = some (.bl (w.g i).isSome, s) ∧ notInD (wy i) (.ref k) s = some (.bl (!(w.g i).isSome), s) := by
  have e := h.get o hi
  have n := h.notL
  constructor
  · unfold inD inS
    simp only
    split
    · rename_i ds he
      exact absurd he (n ds).1
    · rw [e]
      simp
  · unfold notInD inS
    simp only
    split
    · rename_i ds he
      exact absurd he (n ds).1
    · rw [e]
      simp
theorem ix_ref {k : Nat} {s : Sto} {y d : D} (n : ∀ ds, s[k]? ≠ some (.lst ds) ∧ s[k]? ≠ some (.rol ds) ∧ s[k]? ≠ some (.lk (.lst ds))) (e : dget s k y = some (some d)) : ixD (.ref k) y s = some (d, s) := by
  have h0 : seqOf s (.ref k) = none := by
    unfold seqOf
    simp only
    split
    · rename_i ds he; exact absurd he (n ds).1
    · rename_i ds he; exact absurd he (n ds).2.1
    · rename_i ds he; exact absurd he (n ds).2.2
    · rfl
  simp [ixD, h0, e]
def opn (w : Wd) (i : Nat) (t : Int) : Bool := match w.g i with
  | none => true
  | some z => decide (t % (w.R : Int) ∈ z.1)
def tk (w : Wd) (i : Nat) : Int := match w.g i with
  | none => 1
  | some z => z.2
theorem f_takes {w : Wd} (o : w.Ok) {k : Nat} {s : Sto} (h : Kn w k s) {i : Nat} (hi : i < w.m - 1) : F_takes_of [.ref k, wy i] s = some (.int (tk w i), s) := by
  have e1 := (h.inn o hi).1
  rcases hg : w.g i with _ | z
  · simp [F_takes_of, B_takes_of, run, startL, e1, hg, tk]
  · have e2 := ix_ref h.notL (by rw [h.get o hi, hg]; rfl : dget s k (wy i) = some (some (gv z)))
    have e3 : ixD (gv z) (.int 1) s = some (.int z.2, s) := ix_T rfl s
    simp [F_takes_of, B_takes_of, run, startL, e1, hg, tk, e2, e3]
theorem f_open {w : Wd} (o : w.Ok) {k : Nat} {s : Sto} (h : Kn w k s) {i : Nat} (hi : i < w.m - 1) {p t : Int} (hp : p = t % (w.R : Int)) : F_is_open [.ref k, wy i, .int p] s = some (.bl (opn w i t), s) := by
  have e1 := (h.inn o hi).2
  rcases hg : w.g i with _ | z
  · simp [F_is_open, B_is_open, run, startL, e1, hg, opn]
  · have e2 := ix_ref h.notL (by rw [h.get o hi, hg]; rfl : dget s k (wy i) = some (some (gv z)))
    have e3 : ixD (gv z) (.int 0) s = some (.ft (z.1.map .int), s) := ix_T rfl s
    simp [F_is_open, B_is_open, run, startL, e1, hg, opn, e2, e3, hp]
end FL

set_option Elab.async false
set_option linter.all false
set_option maxRecDepth 100000
set_option autoImplicit false
namespace FL
open PySem PySem.Spec PyProof.Rows L2
/-! ### the first open tick -/
def gof (w : Wd) (i : Nat) : Nat → Int → Int
  | 0, t => t
  | n + 1, t => if opn w i t = true then t else gof w i n (t + 1)
def go (w : Wd) (i : Nat) (t : Int) : Int := gof w i w.R t
theorem opn_some {w : Wd} (o : w.Ok) (i : Nat) (t : Int) : ∃ u, t ≤ u ∧ u < t + w.R ∧ opn w i u = true := by
  have r1 := o.r1
  have hR : (0 : Int) < w.R := by omega
  unfold opn
  rcases hg : w.g i with _ | z
  · exact ⟨t, by omega, by omega, rfl⟩
  · have q := o.ph i z hg
    have ne := q.ne
    obtain ⟨p, hp⟩ := List.exists_mem_of_ne_nil _ ne
    have hb := q.rng p hp
    refine ⟨t + (p - t) % w.R, ?_, ?_, ?_⟩
    · have := Int.emod_nonneg (p - t) (b := (w.R : Int)) (by omega)
      omega
    · have := Int.emod_lt_of_pos (p - t) hR
      omega
    · have e : (t + (p - t) % (w.R : Int)) % (w.R : Int) = p := by
        rw [Int.add_emod_emod]
        have : t + (p - t) = p := by omega
        rw [this]
        exact Int.emod_eq_of_lt hb.1 hb.2
      simp only [e]
      exact decide_eq_true hp
theorem gof_spec (w : Wd) (i : Nat) : ∀ (n : Nat) (t : Int), (∃ u, t ≤ u ∧ u < t + n ∧ opn w i u = true) → t ≤ gof w i n t ∧ gof w i n t < t + n ∧ opn w i (gof w i n t) = true ∧ ∀ u, t ≤ u → u < gof w i n t → opn w i u = false
  | 0, t, h => by
    obtain ⟨u, h1, h2, _⟩ := h
    omega
  | n + 1, t, h => by
    rw [gof]
    by_cases h0 : opn w i t = true
    · rw [if_pos h0]
      exact ⟨by omega, by omega, h0, fun u h1 h2 => by omega⟩
    · rw [if_neg h0]
      obtain ⟨u, h1, h2, h3⟩ := h
      have hu : u ≠ t := fun e => h0 (e ▸ h3)
      obtain ⟨a, b, c, d⟩ := gof_spec w i n (t + 1) ⟨u, by omega, by omega, h3⟩
      refine ⟨by omega, by omega, c, fun v v1 v2 => ?_⟩
      by_cases e : v = t
      · subst e
        simpa using h0
      · exact d v (by omega) v2
structure GoIs (w : Wd) (i : Nat) (t x : Int) : Prop where
  ge : t ≤ x
  lt : x < t + w.R
  op : opn w i x = true
  no : ∀ u, t ≤ u → u < x → opn w i u = false
theorem go_is {w : Wd} (o : w.Ok) (i : Nat) (t : Int) : GoIs w i t (go w i t) := by
  obtain ⟨a, b, c, d⟩ := gof_spec w i w.R t (opn_some o i t)
  exact ⟨a, b, c, d⟩
theorem go_eq {w : Wd} (o : w.Ok) {i : Nat} {t x : Int} (h1 : t ≤ x) (h2 : opn w i x = true) (h3 : ∀ u, t ≤ u → u < x → opn w i u = false) : go w i t = x := by
  have q := go_is o i t
  rcases Int.lt_trichotomy (go w i t) x with h | h | h
  · have := h3 _ q.ge h
    rw [q.op] at this
    cases this
  · exact h
  · have := q.no x h1 h
    rw [h2] at this
    cases this
theorem go_mono {w : Wd} (o : w.Ok) (i : Nat) {t u : Int} (h : t ≤ u) : go w i t ≤ go w i u := by
  have q := go_is o i t
  have r := go_is o i u
  rcases Int.lt_or_le (go w i u) (go w i t) with h1 | h1
  · have := q.no _ (by have := r.ge; omega) h1
    rw [r.op] at this
    cases this
  · exact h1
theorem opn_add (w : Wd) (i : Nat) (t : Int) : opn w i (t + w.R) = opn w i t := by
  unfold opn
  rw [Int.add_emod_right]
theorem opn_mod (w : Wd) (i : Nat) (t : Int) : opn w i (t % w.R) = opn w i t := by
  unfold opn
  rw [Int.emod_emod]
theorem go_add {w : Wd} (o : w.Ok) (i : Nat) (t : Int) : go w i (t + w.R) = go w i t + w.R := by
  have q := go_is o i t
  refine go_eq o (by have := q.ge; omega) (by rw [opn_add]; exact q.op) fun u h1 h2 => ?_
  have := q.no (u - w.R) (by omega) (by omega)
  rw [← opn_add] at this
  have e : u - w.R + (w.R : Int) = u := by omega
  rwa [e] at this
theorem go_self {w : Wd} (o : w.Ok) {i : Nat} {t : Int} (h : opn w i t = true) : go w i t = t := go_eq o (Int.le_refl _) h fun u h1 h2 => by omega
theorem go_next {w : Wd} (o : w.Ok) {i : Nat} {t : Int} (h : opn w i t = false) : go w i t = go w i (t + 1) := by
  have q := go_is o i (t + 1)
  refine go_eq o (by have := q.ge; omega) q.op fun u h1 h2 => ?_
  by_cases e : u = t
  · rw [e, h]
  · exact q.no u (by omega) h2
def arr (w : Wd) (i : Nat) (t : Int) : Int := go w i t + tk w i
theorem tk_bd {w : Wd} (o : w.Ok) (i : Nat) : 1 ≤ tk w i ∧ tk w i ≤ 9 := by
  unfold tk
  rcases hg : w.g i with _ | z
  · simp
  · have q := o.ph i z hg
    exact ⟨q.k1, q.k9⟩
theorem rgD_eq (a : Int) (n : Nat) : rgD a (a + n) = (List.range n).map fun i => D.int (a + (i : Nat)) := by
  unfold rgD
  have : (a + (n : Int) - a).toNat = n := by omega
  rw [this]
theorem rg0_eq (n : Nat) : rgD 0 n = (List.range n).map fun i => D.int (i : Nat) := by
  have := rgD_eq 0 n
  simpa using this
theorem first_open (w : Wd) (i : Nat) : ∀ (n : Nat) (t : Int), (∃ u, t ≤ u ∧ u < t + n ∧ opn w i u = true) → ∃ r, ((List.range n).filter fun j : Nat => opn w i (t + j)).map (fun j : Nat => D.int (t + j)) = .int (gof w i n t) :: r
  | 0, t, h => by
    obtain ⟨u, h1, h2, _⟩ := h
    omega
  | n + 1, t, h => by
    rw [List.range_succ_eq_map, gof]
    by_cases h0 : opn w i t = true
    · rw [if_pos h0]
      simp [h0]
    · rw [if_neg h0]
      obtain ⟨u, h1, h2, h3⟩ := h
      have hu : u ≠ t := fun e => h0 (e ▸ h3)
      obtain ⟨r, hr⟩ := first_open w i n (t + 1) ⟨u, by omega, by omega, h3⟩
      refine ⟨r, ?_⟩
      rw [← hr, List.filter_cons_of_neg (by simpa using h0), List.filter_map, List.map_map]
      have e : ∀ j : Nat, t + ((Nat.succ j : Nat) : Int) = t + 1 + (j : Int) := fun j => by omega
      congr 1
      · funext j
        simp only [Function.comp_apply, e]
      · congr 1
        funext j
        simp only [Function.comp_apply, e]
theorem two62 : (2 : Int) ^ 62 = 4611686018427387904 := by decide +kernel
theorem rgB_in {i : Int} (h0 : 0 ≤ i) (h1 : i ≤ 1000000) : rgB i = true := by
  unfold rgB
  rw [decide_eq_true (by omega), decide_eq_true (by omega)]
  rfl
theorem rgOkB_in {i : Int} (h0 : 0 ≤ i) (h1 : i ≤ 1000000) : rgOkB 0 i = true := by
  unfold rgOkB
  rw [rgB_in (Int.le_refl _) (by omega), rgB_in h0 h1, decide_eq_true (by
    have e : (2 : Nat) ^ 24 = 16777216 := by decide +kernel
    rw [e]
    omega)]
  rfl
theorem i_TRg1 {f : FE} {L : Loc} {s s' : Sto} {j : Int} (h : f L s = some (.int j, s')) (e : rgOkB 0 j = true) : fTRg1 f L s = some (.tup (rgD 0 j), s') := by
  unfold fTRg1
  rw [h]
  exact if_pos e
theorem i_LRg1 {f : FE} {L : Loc} {s s' : Sto} {j : Int} (h : f L s = some (.int j, s')) (e : rgOkB 0 j = true) : fLRg1 f L s = some (.ref s'.length, s' ++ [.lst (rgD 0 j)]) := by
  unfold fLRg1
  rw [h]
  exact if_pos e
theorem i_Rng1' {f : FE} {L : Loc} {s s' : Sto} {j : Int} (h : f L s = some (.int j, s')) (e : rgB j = true) : fRng1 (fAc f fA0) L s = some (⟨rgD 0 j, []⟩, s') := by
  unfold fRng1
  simp only [e_Ac, h, e_A0, Option.bind_some]
  exact if_pos e
theorem i_Rng1 {f : FE} {L : Loc} {s s' : Sto} {j : Nat} (h : f L s = some (.int j, s')) (e : j ≤ 1000000) : fRng1 (fAc f fA0) L s = some (⟨(List.range j).map fun i => D.int (i : Nat), []⟩, s') := by
  have e1 := i_Rng1' h (rgB_in (by omega) (by omega))
  rw [rg0_eq] at e1
  exact e1
theorem i_Rng2 {f g : FE} {L : Loc} {s s' s2 : Sto} {j : Int} {n : Nat} (h : f L s = some (.int j, s')) (h2 : g L s' = some (.int (j + n), s2)) (e : 0 ≤ j) (e2 : j + n ≤ 1000000) : fRng2 (fAc f (fAc g fA0)) L s = some (⟨(List.range n).map fun i => D.int (j + (i : Nat)), []⟩, s2) := by
  unfold fRng2
  simp only [e_Ac, h, h2, e_A0, Option.bind_some]
  rw [← rgD_eq]
  exact if_pos (by rw [rgB_in (by omega) (by omega), rgB_in (by omega) (by omega)]; rfl)
theorem i_Get2 {fd fk fx : FE} {L : Loc} {s s1 s2 s3 : Sto} {n : Nat} {y x : D} {v : Option D} (h1 : fd L s = some (.ref n, s1)) (hd : isDictR s1 (.ref n) = true) (h2 : fk L s1 = some (y, s2)) (h3 : fx L s2 = some (x, s3)) (h4 : dget s3 n y = some v) : fGet2 fd fk fx L s = some (v.getD x, s3) := by
  unfold fGet2
  rw [h1]
  simp only [Option.bind_some]
  rw [if_pos hd, h2]
  simp only [Option.bind_some]
  rw [h3]
  simp only [Option.bind_some]
  rw [h4]
  rfl
theorem sz (n : Nat) (h : n ≤ 1000) : n ≤ sizeLine := by rw [sizeLine_eq]; omega
theorem sz1 : 1 ≤ sizeLine := sz 1 (by omega)
theorem sz2 : 2 ≤ sizeLine := sz 2 (by omega)
theorem sz3 : 3 ≤ sizeLine := sz 3 (by omega)
theorem sz4 : 4 ≤ sizeLine := sz 4 (by omega)
theorem atI_zero {α : Type} (a : α) (r : List α) : L2.atI (a :: r) 0 = some a := by simp [L2.atI, L2.ixN]
theorem ix_L {n : Nat} {ds : List D} {s : Sto} {i : Int} {d : D} (h : s[n]? = some (.lst ds)) (e : L2.atI ds i = some d) : ixD (.ref n) (.int i) s = some (d, s) := by
  have h0 : seqOf s (.ref n) = some ds := by simp [seqOf, h]
  unfold ixD
  simp only [h0, e]
  rfl
theorem f_set_off {w : Wd} (o : w.Ok) {i : Nat} (hi : i < w.m - 1) {t : Int} (h0 : 0 ≤ t) (h1 : t ≤ 9999) (s : Sto) : F_set_off [flo w.m, gates w, cl i, cl (i + 1), .int t] s = some (.tup [.int (go w i t), .int (arr w i t)], s) := by
  have hs : sizeLine = 16777216 := sizeLine_eq
  have r1 := o.r1
  have r12 := o.r12
  have hR : (0 : Int) < w.R := by omega
  have c1 := fun s => f_check_ends o (i := i) (j := i + 1) (by omega) (by omega) s
  have c2 := fun s => f_check_tick h0 h1 s
  have i1 : ∀ s, ixD (flo w.m) (.int 1) s = some (.ft (ways w.m), s) := fun s => ix_T rfl s
  have i0 : ∀ s, ixD (gates w) (.int 0) s = some (.int w.R, s) := fun s => ix_T rfl s
  have c3 : ∀ s, notInD (.tup [cl i, cl (i + 1)]) (.ft (ways w.m)) s = some (.bl false, s) := fun s => way_in hi o.m6 s
  obtain ⟨k, t1, k1, g1, hk, hd⟩ := f_known o s
  have hn : ∀ s', Gr t1 s' → Kn w k s' := fun s' g => by
    unfold Kn
    rw [g.at hd]
    rfl
  obtain ⟨t2, k2, g2, h2⟩ := lc_eval (fi := fRng1 (fAc (fvar 6) fA0)) (fg := fNm 8) (ft := fTb (fCall F_is_open (fAc (fvar 5) (fAc (fTup (fAc (fvar 2) (fAc (fvar 3) fA0))) (fAc (fE2 modD (fE2 addD (fvar 4) (fvar 8)) (fvar 6)) fA0))))) (fe := fE2 addD (fvar 4) (fvar 8)) (vs := [8])
    (L := [some (flo w.m), some (gates w), some (cl i), some (cl (i + 1)), some (.int t), some (.ref k), some (.int w.R), none, none]) (s := t1) (s0 := t1) (items := (List.range w.R).map fun j => D.int (j : Nat)) (chk := [])
    (fun d => opn w i (t + d.toI)) (fun d => .int (t + d.toI)) (i_Rng1 (by simp) (by omega)) (by simp) (fun d hd => ⟨⟨_, fun _ => rfl, fun s' g => ⟨s', by
        obtain ⟨j, hj, rfl⟩ := List.mem_map.mp hd
        have := f_open o (hn s' g) hi (p := (t + j) % w.R) (t := t + j) rfl
        simp only [wy] at this
        simp [wipeL, sz2, o_mod hR, this], Gr.refl _, fun _ => ⟨s', by
        obtain ⟨j, hj, rfl⟩ := List.mem_map.mp hd
        simp [wipeL], Gr.refl _⟩⟩⟩⟩) (by simp; omega)
  rw [List.filter_map, List.map_map] at h2
  obtain ⟨r, hr⟩ := first_open w i w.R t (opn_some o i t)
  have hr' : (List.filter ((fun d => opn w i (t + d.toI)) ∘ fun j : Nat => D.int j) (List.range w.R)).map ((fun d => D.int (t + d.toI)) ∘ fun j : Nat => D.int j) = .int (go w i t) :: r := hr
  rw [hr'] at h2
  have e1 := ix_L h2 (atI_zero (D.int (go w i t)) r)
  have e2 := f_takes o (hn t2 g2) hi
  simp only [wy] at e2
  have g := g1.trans g2
  have fin := g.finP (d := .tup [.int (go w i t), .int (arr w i t)]) rfl
  unfold arr at fin ⊢
  simp -implicitDefEqProofs [F_set_off, B_set_off, run, startL, c1, c2, i1, c3, sz2, k1, i0, k2, e1, e2, fin]
/-! ### the law's own -/
def ph (w : Wd) (i : Nat) : D := match w.g i with
  | none => .tup (rgD 0 w.R)
  | some z => .ft (z.1.map .int)
theorem anyI' (i : Int) (ns : List Int) (s : Sto) : inD (.int i) (.tup (ns.map .int)) s = some (.bl (decide (i ∈ ns)), s) := by
  simp only [inD, inS, pures_int, deps_int, D.pure, Bool.and_self, Nat.zero_le, Nat.zero_min, decide_true, if_true, anyI]
  simp
theorem in_ph {w : Wd} (o : w.Ok) (i : Nat) (t : Int) (s : Sto) : inD (.int (t % w.R)) (ph w i) s = some (.bl (opn w i t), s) := by
  have r1 := o.r1
  unfold ph opn
  rcases hg : w.g i with _ | z
  · have e : rgD 0 (w.R : Int) = ((List.range w.R).map fun j : Nat => (j : Int)).map .int := by rw [rg0_eq, List.map_map]; rfl
    simp only [e]
    rw [anyI', decide_eq_true]
    have h1 := Int.emod_nonneg t (b := (w.R : Int)) (by omega)
    have h2 := Int.emod_lt_of_pos t (b := (w.R : Int)) (by omega)
    exact List.mem_map.mpr ⟨(t % w.R).toNat, List.mem_range.mpr (by omega), by omega⟩
  · simp only
    rw [in_int]
theorem f_goes {w : Wd} (o : w.Ok) {k : Nat} {s : Sto} (h : Kn w k s) {i : Nat} (hi : i < w.m - 1) {t : Int} (h0 : 0 ≤ t) (h1 : t ≤ 99999) : F__law_goes [.ref k, .int w.R, wy i, .int t] s = some (.tup [.int (go w i t), .int (arr w i t)], s) := by
  have hs : sizeLine = 16777216 := sizeLine_eq
  have r1 := o.r1
  have r12 := o.r12
  have hR : (0 : Int) < w.R := by omega
  have isd : isDictR s (.ref k) = true := by
    unfold isDictR
    simp only
    rw [h]
  have e0 : rgOkB 0 w.R = true := rgOkB_in (by omega) (by omega)
  have e7 := i_TRg1 (f := fvar 1) (L := [some (.ref k), some (.int w.R), some (wy i), some (.int t), none, none, none]) (s := s) (s' := s) (j := w.R) (by simp) e0
  have e2 := h.get o hi
  have e3 : ((w.g i).map gv).getD (D.tup [D.tup (rgD 0 w.R), D.int 1]) = .tup [ph w i, .int (tk w i)] := by
    unfold ph tk
    rcases hg : w.g i with _ | z <;> rfl
  have e1 := i_Get2 (fd := fvar 0) (fk := fvar 2) (fx := fTup (fAc (fTRg1 (fvar 1)) (fAc (fC (.int 1)) fA0))) (L := [some (.ref k), some (.int w.R), some (wy i), some (.int t), none, none, none]) (s := s) rfl isd rfl (by simp [e7, sz2]; rfl) e2
  rw [e3] at e1
  have loop : ∀ (n : Nat) (u : Int) (x : Option D), (∃ v, u ≤ v ∧ v < u + n ∧ opn w i v = true) → ∃ L', fLoop (fNm 6) (fIfS (fTb (fE2 inD (fE2 modD (fCB intD (fAc (fvar 6) fA0)) (fvar 1)) (fvar 4))) (fRt (fTup (fAc (fvar 6) (fAc (fE2 addD (fvar 6) (fvar 5)) fA0)))) fNx) []
      ((List.range n).map fun j => D.int (u + (j : Nat))) [some (.ref k), some (.int w.R), some (wy i), some (.int t), some (ph w i), some (.int (tk w i)), x] s = some (.rt (.tup [.int (gof w i n u), .int (gof w i n u + tk w i)]), L', s) := by
    intro n
    induction n with
    | zero =>
      intro u x hv
      obtain ⟨v, v1, v2, _⟩ := hv
      omega
    | succ n ih =>
      intro u x hv
      rw [List.range_succ_eq_map, gof]
      have ep := in_ph o i u s
      by_cases h0 : opn w i u = true
      · rw [if_pos h0]
        rw [h0] at ep
        exact ⟨_, by simp [fLoop, stands, intD, o_mod hR, ep, sz2]; rfl⟩
      · rw [if_neg h0]
        have h0' : opn w i u = false := by simpa using h0
        rw [h0'] at ep
        obtain ⟨v, v1, v2, v3⟩ := hv
        have hu : v ≠ u := fun e => h0 (e ▸ v3)
        obtain ⟨L', hL⟩ := ih (u + 1) (some (.int u)) ⟨v, by omega, by omega, v3⟩
        refine ⟨L', ?_⟩
        have e : ∀ j : Nat, u + ((j : Int) + 1) = u + 1 + (j : Int) := fun j => by omega
        simp [fLoop, stands, intD, o_mod hR, ep, Function.comp_def, e, hL]
  obtain ⟨L', hL⟩ := loop w.R t none (opn_some o i t)
  have eR : fRng2 (fAc (fvar 3) (fAc (fE2 addD (fvar 3) (fvar 1)) fA0)) [some (.ref k), some (.int w.R), some (wy i), some (.int t), some (ph w i), some (.int (tk w i)), none] s = some (⟨(List.range w.R).map fun j => D.int (t + (j : Nat)), []⟩, s) := i_Rng2 (f := fvar 3) rfl rfl h0 (by omega)
  simp [F__law_goes, B__law_goes, run, startL, e1, fFor, eR, hL, arr, go]
end FL

set_option Elab.async false
set_option linter.all false
set_option maxRecDepth 100000
set_option autoImplicit false
namespace FL
open PySem PySem.Spec PyProof.Rows L2
/-! ### loops -/
theorem loop_inv {fg : FG} {fb : FS} {c : List (Nat × O)} (I : Nat → Loc → Sto → Prop) (hs : ∀ i L s, I i L s → stands c s = true) : ∀ (items : List D) (k : Nat) (L : Loc) (s : Sto),
    (∀ i d L s, items[i]? = some d → I (k + i) L s → ∃ L1 s1 L2 s2, fg d L s = some (L1, s1) ∧ fb L1 s1 = some (.nx, L2, s2) ∧ I (k + i + 1) L2 s2) → I k L s → ∃ L' s', fLoop fg fb c items L s = some (.nx, L', s') ∧ I (k + items.length) L' s'
  | [], k, L, s, _, h0 => ⟨L, s, by rw [fLoop, if_pos (hs k L s h0)], h0⟩
  | d :: r, k, L, s, st, h0 => by
    obtain ⟨L1, s1, L2, s2, e1, e2, h1⟩ := st 0 d L s rfl h0
    obtain ⟨L', s', e3, h2⟩ := loop_inv I hs r (k + 1) L2 s2 (fun i d L s hd hi => by
      have e : k + 1 + i = k + (i + 1) := by omega
      rw [e] at hi ⊢
      exact st (i + 1) d L s hd hi) h1
    refine ⟨L', s', ?_, ?_⟩
    · rw [fLoop, if_pos (hs k L s h0), e1]
      simp only [Option.bind_some, e2]
      exact e3
    · rw [List.length_cons]
      have e : k + (r.length + 1) = k + 1 + r.length := by omega
      rw [e]
      exact h2
theorem for_inv {fi : FI} {fg : FG} {fb : FS} {items : List D} {c : List (Nat × O)} {L : Loc} {s s0 : Sto} (h : fi L s = some (⟨items, c⟩, s0)) (I : Nat → Loc → Sto → Prop) (hs : ∀ i L s, I i L s → stands c s = true)
    (st : ∀ i d L s, items[i]? = some d → I i L s → ∃ L1 s1 L2 s2, fg d L s = some (L1, s1) ∧ fb L1 s1 = some (.nx, L2, s2) ∧ I (i + 1) L2 s2) (h0 : I 0 L s0) : ∃ L' s', fFor fi fg fb L s = some (.nx, L', s') ∧ I items.length L' s' := by
  obtain ⟨L', s', e, h1⟩ := loop_inv I hs items 0 L s0 (fun i d L s hd hi => by
    rw [Nat.zero_add] at hi ⊢
    exact st i d L s hd hi) h0
  rw [Nat.zero_add] at h1
  refine ⟨L', s', ?_, h1⟩
  unfold fFor
  rw [h]
  exact e
theorem wh_inv {c : FT} {b : FS} (I : Nat → Loc → Sto → Prop) (J : Loc → Sto → Prop)
    (st : ∀ k L s, I k L s → (∃ s1, c L s = some (false, s1) ∧ J L s1) ∨ ∃ s1 L2 s2 k', c L s = some (true, s1) ∧ b L s1 = some (.nx, L2, s2) ∧ k' < k ∧ I k' L2 s2) : ∀ (n k : Nat) (L : Loc) (s : Sto), k < n → I k L s → ∃ L' s', fWh c b n L s = some (.nx, L', s') ∧ J L' s'
  | 0, k, _, _, h, _ => by omega
  | n + 1, k, L, s, h, h0 => by
    rcases st k L s h0 with ⟨s1, e1, j⟩ | ⟨s1, L2, s2, k', e1, e2, hk, h1⟩
    · refine ⟨L, s1, ?_, j⟩
      rw [fWh, e1]
      rfl
    · obtain ⟨L', s', e3, j⟩ := wh_inv I J st n k' L2 s2 (by omega) h1
      refine ⟨L', s', ?_, j⟩
      rw [fWh, e1]
      simp only [Option.bind_some, if_true, e2]
      exact e3
/-! ### the way's end -/
def fin (w : Wd) : Nat → Nat → Int → Int
  | 0, _, t => t
  | n + 1, i, t => fin w n (i + 1) (arr w i t)
theorem arr_bd {w : Wd} (o : w.Ok) (i : Nat) (t : Int) : t + 1 ≤ arr w i t ∧ arr w i t ≤ t + 20 := by
  have q := go_is o i t
  have h := tk_bd o i
  have r12 := o.r12
  have a := q.ge
  have b := q.lt
  unfold arr
  omega
theorem arr_mono {w : Wd} (o : w.Ok) (i : Nat) {t u : Int} (h : t ≤ u) : arr w i t ≤ arr w i u := by
  have := go_mono o i h
  unfold arr
  omega
theorem arr_add {w : Wd} (o : w.Ok) (i : Nat) (t : Int) : arr w i (t + w.R) = arr w i t + w.R := by
  unfold arr
  rw [go_add o]
  omega
theorem fin_mono {w : Wd} (o : w.Ok) : ∀ (n i : Nat) {t u : Int}, t ≤ u → fin w n i t ≤ fin w n i u
  | 0, _, _, _, h => h
  | n + 1, i, _, _, h => fin_mono o n (i + 1) (arr_mono o i h)
theorem fin_add {w : Wd} (o : w.Ok) : ∀ (n i : Nat) (t : Int), fin w n i (t + w.R) = fin w n i t + w.R
  | 0, _, _ => rfl
  | n + 1, i, t => by rw [fin, arr_add o, fin_add o n (i + 1), fin]
theorem fin_bd {w : Wd} (o : w.Ok) : ∀ (n i : Nat) (t : Int), t + n ≤ fin w n i t ∧ fin w n i t ≤ t + 20 * n
  | 0, _, t => by simp [fin]
  | n + 1, i, t => by
    have h := fin_bd o n (i + 1) (arr w i t)
    have b := arr_bd o i t
    rw [fin]
    omega
theorem fin_mul {w : Wd} (o : w.Ok) (n i : Nat) (t : Int) : ∀ k : Nat, fin w n i (t + w.R * k) = fin w n i t + w.R * k
  | 0 => by simp
  | k + 1 => by
    have e : t + (w.R : Int) * ((k + 1 : Nat) : Int) = t + w.R * k + w.R := by
      rw [Int.natCast_succ, Int.mul_add]
      omega
    rw [e, fin_add o, fin_mul o n i t k]
    rw [Int.natCast_succ, Int.mul_add]
    omega
def lev (w : Wd) (G i : Nat) (t : Int) : Int := fin w (G - i) i t - t
theorem lev_mod {w : Wd} (o : w.Ok) (G i : Nat) (t : Int) : lev w G i (t % w.R) = lev w G i t := by
  unfold lev
  have e := Int.emod_add_mul_ediv t w.R
  rcases Int.lt_or_le (t / w.R) 0 with h | h
  · have e2 : t % w.R = t + w.R * ((-(t / w.R)).toNat : Nat) := by
      have : (((-(t / w.R)).toNat : Nat) : Int) = -(t / w.R) := by omega
      rw [this, Int.mul_neg]
      omega
    have e3 := fin_mul o (G - i) i t (-(t / w.R)).toNat
    rw [← e2] at e3
    omega
  · have e2 : t = t % w.R + w.R * ((t / w.R).toNat : Nat) := by
      have : (((t / w.R).toNat : Nat) : Int) = t / w.R := by omega
      rw [this]
      omega
    have e3 := fin_mul o (G - i) i (t % w.R) (t / w.R).toNat
    rw [← e2] at e3
    omega
theorem lev_goal (w : Wd) (G : Nat) (t : Int) : lev w G G t = 0 := by
  unfold lev
  rw [Nat.sub_self]
  simp [fin]
theorem lev_step (w : Wd) {G i : Nat} (h : i < G) (t : Int) : lev w G i t = arr w i t - t + lev w G (i + 1) (arr w i t) := by
  unfold lev
  have e : G - i = (G - (i + 1)) + 1 := by omega
  rw [e, fin]
  omega
theorem lev_open {w : Wd} (o : w.Ok) {G i : Nat} (h : i < G) {t : Int} (ho : opn w i t = true) : lev w G i t = tk w i + lev w G (i + 1) (t + tk w i) := by
  rw [lev_step w h]
  unfold arr
  rw [go_self o ho]
  omega
theorem lev_wait {w : Wd} (o : w.Ok) {G i : Nat} (h : i < G) {t : Int} (ho : opn w i t = false) : lev w G i t = 1 + lev w G i (t + 1) := by
  rw [lev_step w h, lev_step w h (t + 1)]
  unfold arr
  rw [go_next o ho]
  omega
theorem lev_le {w : Wd} (o : w.Ok) (G i : Nat) (t : Int) : lev w G i t ≤ 1 + lev w G i (t + 1) := by
  unfold lev
  have := fin_mono o (G - i) i (t := t) (u := t + 1) (by omega)
  omega
theorem lev_bd {w : Wd} (o : w.Ok) (G i : Nat) (t : Int) : ((G - i : Nat) : Int) ≤ lev w G i t ∧ lev w G i t ≤ 20 * ((G - i : Nat) : Int) := by
  unfold lev
  have := fin_bd o (G - i) i t
  omega
theorem lev_nn {w : Wd} (o : w.Ok) (G i : Nat) (t : Int) : 0 ≤ lev w G i t := by
  have := (lev_bd o G i t).1
  omega
end FL

set_option Elab.async false
set_option linter.all false
set_option maxRecDepth 100000
set_option autoImplicit false
namespace FL
open PySem PySem.Spec PyProof.Rows L2
/-! ### dicts -/
section
variable {κ : Type} [DecidableEq κ]
theorem val_set (k : κ) (d : D) (k' : κ) : ∀ kvs : List (κ × D), valD (setD kvs k d) k' = if k = k' then (valD kvs k).map (fun _ => d) else valD kvs k'
  | [] => by simp [setD, valD]
  | a :: r => by
    have ih := val_set k d k' r
    unfold setD
    by_cases h : a.1 = k
    · rw [if_pos h]
      unfold valD
      by_cases h2 : k = k'
      · rw [if_pos h2, if_pos (by rw [h, h2]), if_pos h]
        rfl
      · rw [if_neg h2, if_neg (by rw [h]; exact h2), if_neg (by rw [h]; exact h2), ih, if_neg h2]
    · rw [if_neg h]
      unfold valD
      by_cases h2 : k = k'
      · rw [if_pos h2, if_neg (by rw [← h2]; exact h), if_neg h, ih, if_pos h2]
      · rw [if_neg h2]
        by_cases h3 : a.1 = k'
        · rw [if_pos h3, if_pos h3]
        · rw [if_neg h3, if_neg h3, ih, if_neg h2]
theorem val_app (k : κ) (y : List (κ × D)) : ∀ x : List (κ × D), valD (x ++ y) k = match valD x k with | some d => some d | none => valD y k
  | [] => rfl
  | a :: r => by
    have ih := val_app k y r
    rw [List.cons_append]
    show (if a.1 = k then some a.2 else valD (r ++ y) k) = match (if a.1 = k then some a.2 else valD r k) with | some d => some d | none => valD y k
    by_cases h : a.1 = k
    · rw [if_pos h, if_pos h]
    · rw [if_neg h, if_neg h]
      exact ih
theorem val_put (kvs : List (κ × D)) (k : κ) (d : D) (k' : κ) : valD (putD kvs k d) k' = if k = k' then some d else valD kvs k' := by
  unfold putD hasD
  by_cases h : (valD kvs k).isSome = true
  · rw [if_pos h, val_set]
    obtain ⟨x, hx⟩ := Option.isSome_iff_exists.mp h
    rw [hx]
    rfl
  · rw [if_neg h, val_app]
    have h0 : valD kvs k = none := by simpa using h
    by_cases h2 : k = k'
    · subst h2
      rw [h0, if_pos rfl]
      simp [valD]
    · rw [if_neg h2]
      cases valD kvs k' with
      | some x => rfl
      | none => simp [valD, h2]
end
theorem val_merge_no {k : Key} : ∀ (more acc : List (Key × D)), k ∉ more.map (·.1) → valD (mergeD acc more) k = valD acc k
  | [], _, _ => rfl
  | a :: r, acc, h => by
    rw [List.map_cons, List.mem_cons, not_or] at h
    show valD (mergeD (putD acc a.1 a.2) r) k = _
    rw [val_merge_no r _ h.2, val_put, if_neg fun e => h.1 e.symm]
theorem val_merge {k : Key} {d : D} : ∀ (more acc : List (Key × D)), (more.map (·.1)).Nodup → (k, d) ∈ more → valD (mergeD acc more) k = some d
  | a :: r, acc, n, h => by
    rw [List.map_cons, List.nodup_cons] at n
    show valD (mergeD (putD acc a.1 a.2) r) k = _
    rcases List.mem_cons.mp h with rfl | h
    · rw [val_merge_no r _ n.1, val_put, if_pos rfl]
    · exact val_merge r _ n.2 h
/-! ### lists -/
theorem i_App {fr fe : FE} {L : Loc} {s s1 s2 : Sto} {n : Nat} {x : D} {ds : List D} (h1 : fr L s = some (.ref n, s1)) (h2 : fe L s1 = some (x, s2)) (h3 : s1[n]? = some (.lst ds)) (h4 : s2[n]? = some (.lst ds)) (h5 : ds.length < sizeLine) :
    fM "list" appD fr (fAc fe fA0) L s = some (.non, s2.set n (.lst (ds ++ [x]))) := by
  have t : tyD "list" s1 (.ref n) = true := by simp [tyD, lstD, h3]
  have a : appD (.ref n) [x] s2 = some (.non, s2.set n (.lst (ds ++ [x]))) := by
    unfold appD
    simp only [h4]
    exact if_pos h5
  simp -implicitDefEqProofs [h1, t, h2, a]
/-- a comprehension by an invariant -/
theorem lcl_inv {fg : FG} {ft : FT} {fe : FE} {L : Loc} {k : Nat} {c : List (Nat × O)} (I : Nat → List D → Sto → Prop) (hs : ∀ i acc s, I i acc s → stands c s = true) : ∀ (items : List D) (n : Nat) (acc : List D) (s : Sto),
    (∀ i d acc s, items[i]? = some d → I (n + i) acc s → acc.length < sizeLine ∧ ∃ L1 s1 s2 y s3, fg d L s = some (L1, s1) ∧ ft L1 s1 = some (true, s2) ∧ fe L1 s2 = some (y, s3) ∧ s3[k]? = some (.lst acc) ∧ I (n + i + 1) (acc ++ [y]) (s3.set k (.lst (acc ++ [y])))) →
    I n acc s → ∃ acc' s', fLcl fg ft fe c k L items s = some s' ∧ I (n + items.length) acc' s'
  | [], n, acc, s, _, h0 => ⟨acc, s, by rw [fLcl, if_pos (hs n acc s h0)], h0⟩
  | d :: r, n, acc, s, st, h0 => by
    obtain ⟨hz, L1, s1, s2, y, s3, e1, e2, e3, e4, h1⟩ := st 0 d acc s rfl h0
    obtain ⟨acc', s', e5, h2⟩ := lcl_inv I hs r (n + 1) _ _ (fun i d acc s hd hi => by
      have e : n + 1 + i = n + (i + 1) := by omega
      rw [e] at hi ⊢
      exact st (i + 1) d acc s hd hi) h1
    refine ⟨acc', s', ?_, ?_⟩
    · rw [fLcl, if_pos (hs n acc s h0), e1]
      simp only [Option.bind_some, e2, if_true, e3, e4]
      rw [if_pos hz]
      exact e5
    · rw [List.length_cons]
      have e : n + (r.length + 1) = n + 1 + r.length := by omega
      rw [e]
      exact h2
theorem lc_inv {fi : FI} {fg : FG} {ft : FT} {fe : FE} {vs : List Nat} {L : Loc} {s s0 : Sto} {items : List D} {c : List (Nat × O)} (h : fi L s = some (⟨items, c⟩, s0)) (I : Nat → List D → Sto → Prop) (hs : ∀ i acc s, I i acc s → stands c s = true)
    (st : ∀ i d acc s, items[i]? = some d → I i acc s → acc.length < sizeLine ∧ ∃ L1 s1 s2 y s3, fg d (wipeL L vs) s = some (L1, s1) ∧ ft L1 s1 = some (true, s2) ∧ fe L1 s2 = some (y, s3) ∧ s3[s0.length]? = some (.lst acc) ∧ I (i + 1) (acc ++ [y]) (s3.set s0.length (.lst (acc ++ [y]))))
    (h0 : I 0 [] (s0 ++ [.lst []])) : ∃ acc' s', fLc fi fg ft fe vs L s = some (.ref s0.length, s') ∧ I items.length acc' s' := by
  obtain ⟨acc', s', e, h1⟩ := lcl_inv (L := wipeL L vs) (k := s0.length) I hs items 0 [] (s0 ++ [.lst []]) (fun i d acc s hd hi => by
    rw [Nat.zero_add] at hi ⊢
    exact st i d acc s hd hi) h0
  rw [Nat.zero_add] at h1
  refine ⟨acc', s', ?_, h1⟩
  unfold fLc
  rw [h]
  simp only [Option.bind_some, e]
end FL

set_option Elab.async false
set_option linter.all false
set_option maxRecDepth 100000
set_option autoImplicit false
namespace FL
open PySem PySem.Spec PyProof.Rows L2
/-- the neighbours stand in the store -/
structure Nbfrom (m k : Nat) (s : Sto) : Prop where
  nl : ∀ ds, s[k]? ≠ some (.lst ds) ∧ s[k]? ≠ some (.rol ds) ∧ s[k]? ≠ some (.lk (.lst ds))
  at' : ∀ j, j < m → ∃ a, dget s k (cl j) = some (some (.ref a)) ∧ s[a]? = some (.lst (if j + 1 < m then [cl (j + 1)] else []))
structure Nbinto (m k : Nat) (s : Sto) : Prop where
  nl : ∀ ds, s[k]? ≠ some (.lst ds) ∧ s[k]? ≠ some (.rol ds) ∧ s[k]? ≠ some (.lk (.lst ds))
  at' : ∀ j, j < m → ∃ a, dget s k (cl j) = some (some (.ref a)) ∧ s[a]? = some (.lst (if 0 < j then [cl (j - 1)] else []))
theorem f_goes_from {m : Nat} (hm : m ≤ 6) (s : Sto) : ∃ k t, F_goes_from [flo m] s = some (.ref k, t) ∧ Gr s t ∧ s.length ≤ k ∧ Nbfrom m k t := by
  have hs : sizeLine = 16777216 := sizeLine_eq
  have i0 : ∀ s, ixD (flo m) (.int 0) s = some (.ft (cells m), s) := fun s => ix_T rfl s
  have i1 : ∀ s, ixD (flo m) (.int 1) s = some (.ft (ways m), s) := fun s => ix_T rfl s
  -- the dict of empty lists
  obtain ⟨acc, s1, c1, hacc, c2, c3, c4, c5⟩ := lc_inv (fi := fSeqI (fE2 ixD (fvar 0) (fC (.int 0)))) (fg := fNm 4) (ft := fYes) (fe := fTup (fAc (fvar 4) (fAc (fLst fA0) fA0))) (vs := [4]) (L := [some (flo m), none, none, none, none]) (s := s) (s0 := s) (items := cells m) (c := [])
    (by simp [fSeqI, seqI, i0]) (fun i acc s' => acc = (List.range i).map (fun j => D.tup [cl j, .ref (s.length + 1 + j)]) ∧ Gr s s' ∧ s'.length = s.length + 1 + i ∧ (∀ j, j < i → s'[s.length + 1 + j]? = some (.lst [])) ∧ s'[s.length]? = some (.lst acc)) (fun _ _ _ _ => rfl)
    (by
      intro i d acc s' hd ⟨ha, g, hl, he, hk⟩
      have hi : i < m := by
        have := (List.getElem?_eq_some_iff.mp hd).1
        simpa [cells] using this
      have hd' : d = cl i := by
        unfold cells at hd
        rw [List.getElem?_map, List.getElem?_range hi] at hd
        exact (Option.some.inj hd).symm
      subst hd'
      have hlen : acc.length = i := by rw [ha]; simp
      refine ⟨by omega, _, s', s', .tup [cl i, .ref s'.length], s' ++ [.lst []], rfl, rfl, by simp -implicitDefEqProofs [wipeL, sz2, sz1], ?_, ?_, ?_, ?_, ?_, ?_⟩
      · rw [List.getElem?_append_left (by omega), hk]
      · rw [ha, List.range_succ, List.map_append, hl]
        rfl
      · exact (g.trans (Gr.app _ _)).set (Nat.le_refl _) _
      · simp [hl]
        try omega
      · intro j hj
        rw [List.getElem?_set_ne (by omega)]
        by_cases e : j = i
        · subst e
          rw [← hl]
          simp
        · rw [List.getElem?_append_left (by omega), he j (by omega)]
      · rw [List.getElem?_set_self (by simp; omega)])
    ⟨rfl, Gr.app _ _, by simp, fun j hj => by omega, by simp⟩
  have lc : (cells m).length = m := by simp [cells]
  rw [lc] at hacc c3 c4
  have pk : ∀ n, pairsK ((List.range n).map fun j => D.tup [cl j, .ref (s.length + 1 + j)]) = some ((List.range n).map fun j => ((.inr (nm j) : Key), D.ref (s.length + 1 + j))) := fun n => by
    generalize List.range n = l
    induction l with
    | nil => rfl
    | cons a l ih =>
      have e : pairsK (D.tup [cl a, .ref (s.length + 1 + a)] :: l.map fun j => D.tup [cl j, .ref (s.length + 1 + j)]) = (pairsK (l.map fun j => D.tup [cl j, .ref (s.length + 1 + j)])).map fun t => ((.inr (nm a) : Key), D.ref (s.length + 1 + a)) :: t := rfl
      rw [List.map_cons, e, ih]
      rfl
  let kvs := mergeD [] ((List.range m).map fun j => ((.inr (nm j) : Key), D.ref (s.length + 1 + j)))
  have hv : ∀ j, j < m → valD kvs (.inr (nm j)) = some (.ref (s.length + 1 + j)) := fun j hj => by
    refine val_merge _ _ ?_ ?_
    · rw [List.map_map]
      refine List.pairwise_map.mpr (List.Pairwise.imp_of_mem ?_ List.nodup_range)
      intro a b ha hb hab e
      rw [List.mem_range] at ha hb
      injection e with e
      exact hab (nm_inj (by omega) (by omega) e)
    · exact List.mem_map.mpr ⟨j, List.mem_range.mpr hj, rfl⟩
  have d1 : dictKD [.ref s.length] s1 = some (.ref s1.length, s1 ++ [.dK kvs]) := by
    have e : lstD s1 (.ref s.length) = some acc := by simp [lstD, c5]
    unfold dictKD
    simp only [e, Option.bind_some]
    rw [hacc, pk m]
    rfl
  -- the ways
  obtain ⟨K, hKe⟩ : ∃ K, K = s1.length := ⟨_, rfl⟩
  rw [← hKe] at d1
  have hK : K = s.length + 1 + m := by omega
  have gw : ∀ {s' : Sto} {j : Nat}, s'[K]? = some (.dK kvs) → j < m → ixD (.ref K) (cl j) s' = some (.ref (s.length + 1 + j), s') := fun {s' j} h hj => ix_ref (fun ds => by rw [h]; simp) (by
    have : dget s' K (cl j) = some (valD kvs (.inr (nm j))) := by
      unfold dget
      rw [h]
      rfl
    rw [this, hv j hj])
  obtain ⟨L', s2, l1, l2, g2, l3, l4⟩ := for_inv (fi := fSeqI (fE2 ixD (fvar 0) (fC (.int 1)))) (fg := fGt 2 (fGc (fNm 2) (fGc (fNm 3) fG0))) (fb := fEx (fM "list" appD (fE2 ixD (fvar 1) (fvar 2)) (fAc (fvar 3) fA0))) (items := ways m) (c := [])
    (L := [some (flo m), some (.ref K), none, none, none]) (s := s1 ++ [.dK kvs]) (s0 := s1 ++ [.dK kvs]) (by simp [fSeqI, seqI, i1])
    (fun i L s' => (∃ a b, L = [some (flo m), some (.ref K), a, b, none]) ∧ Gr s s' ∧ s'[K]? = some (.dK kvs) ∧ ∀ j, j < m → s'[s.length + 1 + j]? = some (.lst (if j < i then [cl (j + 1)] else [])))
    (fun _ _ _ _ => rfl) (by
      intro i d L s' hd ⟨⟨a, b, hL⟩, g, hk, hc⟩
      have hi : i < m - 1 := by
        have := (List.getElem?_eq_some_iff.mp hd).1
        simpa [ways] using this
      have hd' : d = wy i := by
        unfold ways at hd
        rw [List.getElem?_map, List.getElem?_range hi] at hd
        exact (Option.some.inj hd).symm
      subst hd' hL
      have e0 := hc (i) (by omega)
      have em : (if i < i then [cl (i + 1)] else [] : List D) = [] := by simp
      rw [em] at e0
      have e1 := i_App (fr := fE2 ixD (fvar 1) (fvar 2)) (fe := fvar 3) (L := [some (flo m), some (.ref K), some (cl i), some (cl (i + 1)), none]) (s := s') (s1 := s') (s2 := s') (n := s.length + 1 + (i)) (x := cl (i + 1)) (ds := []) (by simp -implicitDefEqProofs [gw hk (j := i) (by omega)]) rfl e0 e0 (by simp only [List.length_nil]; omega)
      refine ⟨[some (flo m), some (.ref K), some (cl i), some (cl (i + 1)), none], s', _, _, rfl, by rw [e_Ex, e1]; rfl, ⟨_, _, rfl⟩, g.set (by omega) _, ?_, ?_⟩
      · rw [List.getElem?_set_ne (by omega), hk]
      · intro j hj
        by_cases e : j = i
        · subst e
          rw [List.getElem?_set_self (List.getElem?_eq_some_iff.mp e0).1]
          simp
        · rw [List.getElem?_set_ne (by omega), hc j hj]
          congr 2
          by_cases h1 : j < i
          · rw [if_pos h1, if_pos (by omega)]
          · rw [if_neg h1, if_neg (by omega)])
    ⟨⟨none, none, rfl⟩, c2.trans (Gr.app _ _), by simp [hKe], fun j hj => by
      rw [List.getElem?_append_left (by omega), c4 j hj]
      simp⟩
  obtain ⟨a, b, rfl⟩ := l2
  have lw : (ways m).length = m - 1 := by simp [ways]
  rw [lw] at l4
  refine ⟨K, s2, ?_, g2, by omega, ⟨fun ds => by rw [l3]; simp, fun j hj => ⟨s.length + 1 + j, ?_, ?_⟩⟩⟩
  · have e5 : gc s (.ref K) s2 = (.ref K, s2) := by
      unfold gc
      rw [if_neg]
      simp [D.low]
      omega
    simp -implicitDefEqProofs [F_goes_from, B_goes_from, run, startL, c1, d1, l1, e5]
  · have : dget s2 K (cl j) = some (valD kvs (.inr (nm j))) := by
      unfold dget
      rw [l3]
      rfl
    rw [this, hv j hj]
  · rw [l4 j hj]
    congr 2
    by_cases h1 : j < m - 1
    · rw [if_pos h1, if_pos (by omega)]
    · rw [if_neg h1, if_neg (by omega)]
theorem f_goes_into {m : Nat} (hm : m ≤ 6) (s : Sto) : ∃ k t, F_goes_into [flo m] s = some (.ref k, t) ∧ Gr s t ∧ s.length ≤ k ∧ Nbinto m k t := by
  have hs : sizeLine = 16777216 := sizeLine_eq
  have i0 : ∀ s, ixD (flo m) (.int 0) s = some (.ft (cells m), s) := fun s => ix_T rfl s
  have i1 : ∀ s, ixD (flo m) (.int 1) s = some (.ft (ways m), s) := fun s => ix_T rfl s
  -- the dict of empty lists
  obtain ⟨acc, s1, c1, hacc, c2, c3, c4, c5⟩ := lc_inv (fi := fSeqI (fE2 ixD (fvar 0) (fC (.int 0)))) (fg := fNm 4) (ft := fYes) (fe := fTup (fAc (fvar 4) (fAc (fLst fA0) fA0))) (vs := [4]) (L := [some (flo m), none, none, none, none]) (s := s) (s0 := s) (items := cells m) (c := [])
    (by simp [fSeqI, seqI, i0]) (fun i acc s' => acc = (List.range i).map (fun j => D.tup [cl j, .ref (s.length + 1 + j)]) ∧ Gr s s' ∧ s'.length = s.length + 1 + i ∧ (∀ j, j < i → s'[s.length + 1 + j]? = some (.lst [])) ∧ s'[s.length]? = some (.lst acc)) (fun _ _ _ _ => rfl)
    (by
      intro i d acc s' hd ⟨ha, g, hl, he, hk⟩
      have hi : i < m := by
        have := (List.getElem?_eq_some_iff.mp hd).1
        simpa [cells] using this
      have hd' : d = cl i := by
        unfold cells at hd
        rw [List.getElem?_map, List.getElem?_range hi] at hd
        exact (Option.some.inj hd).symm
      subst hd'
      have hlen : acc.length = i := by rw [ha]; simp
      refine ⟨by omega, _, s', s', .tup [cl i, .ref s'.length], s' ++ [.lst []], rfl, rfl, by simp -implicitDefEqProofs [wipeL, sz2, sz1], ?_, ?_, ?_, ?_, ?_, ?_⟩
      · rw [List.getElem?_append_left (by omega), hk]
      · rw [ha, List.range_succ, List.map_append, hl]
        rfl
      · exact (g.trans (Gr.app _ _)).set (Nat.le_refl _) _
      · simp [hl]
        try omega
      · intro j hj
        rw [List.getElem?_set_ne (by omega)]
        by_cases e : j = i
        · subst e
          rw [← hl]
          simp
        · rw [List.getElem?_append_left (by omega), he j (by omega)]
      · rw [List.getElem?_set_self (by simp; omega)])
    ⟨rfl, Gr.app _ _, by simp, fun j hj => by omega, by simp⟩
  have lc : (cells m).length = m := by simp [cells]
  rw [lc] at hacc c3 c4
  have pk : ∀ n, pairsK ((List.range n).map fun j => D.tup [cl j, .ref (s.length + 1 + j)]) = some ((List.range n).map fun j => ((.inr (nm j) : Key), D.ref (s.length + 1 + j))) := fun n => by
    generalize List.range n = l
    induction l with
    | nil => rfl
    | cons a l ih =>
      have e : pairsK (D.tup [cl a, .ref (s.length + 1 + a)] :: l.map fun j => D.tup [cl j, .ref (s.length + 1 + j)]) = (pairsK (l.map fun j => D.tup [cl j, .ref (s.length + 1 + j)])).map fun t => ((.inr (nm a) : Key), D.ref (s.length + 1 + a)) :: t := rfl
      rw [List.map_cons, e, ih]
      rfl
  let kvs := mergeD [] ((List.range m).map fun j => ((.inr (nm j) : Key), D.ref (s.length + 1 + j)))
  have hv : ∀ j, j < m → valD kvs (.inr (nm j)) = some (.ref (s.length + 1 + j)) := fun j hj => by
    refine val_merge _ _ ?_ ?_
    · rw [List.map_map]
      refine List.pairwise_map.mpr (List.Pairwise.imp_of_mem ?_ List.nodup_range)
      intro a b ha hb hab e
      rw [List.mem_range] at ha hb
      injection e with e
      exact hab (nm_inj (by omega) (by omega) e)
    · exact List.mem_map.mpr ⟨j, List.mem_range.mpr hj, rfl⟩
  have d1 : dictKD [.ref s.length] s1 = some (.ref s1.length, s1 ++ [.dK kvs]) := by
    have e : lstD s1 (.ref s.length) = some acc := by simp [lstD, c5]
    unfold dictKD
    simp only [e, Option.bind_some]
    rw [hacc, pk m]
    rfl
  -- the ways
  obtain ⟨K, hKe⟩ : ∃ K, K = s1.length := ⟨_, rfl⟩
  rw [← hKe] at d1
  have hK : K = s.length + 1 + m := by omega
  have gw : ∀ {s' : Sto} {j : Nat}, s'[K]? = some (.dK kvs) → j < m → ixD (.ref K) (cl j) s' = some (.ref (s.length + 1 + j), s') := fun {s' j} h hj => ix_ref (fun ds => by rw [h]; simp) (by
    have : dget s' K (cl j) = some (valD kvs (.inr (nm j))) := by
      unfold dget
      rw [h]
      rfl
    rw [this, hv j hj])
  obtain ⟨L', s2, l1, l2, g2, l3, l4⟩ := for_inv (fi := fSeqI (fE2 ixD (fvar 0) (fC (.int 1)))) (fg := fGt 2 (fGc (fNm 2) (fGc (fNm 3) fG0))) (fb := fEx (fM "list" appD (fE2 ixD (fvar 1) (fvar 3)) (fAc (fvar 2) fA0))) (items := ways m) (c := [])
    (L := [some (flo m), some (.ref K), none, none, none]) (s := s1 ++ [.dK kvs]) (s0 := s1 ++ [.dK kvs]) (by simp [fSeqI, seqI, i1])
    (fun i L s' => (∃ a b, L = [some (flo m), some (.ref K), a, b, none]) ∧ Gr s s' ∧ s'[K]? = some (.dK kvs) ∧ ∀ j, j < m → s'[s.length + 1 + j]? = some (.lst (if 0 < j ∧ j ≤ i then [cl (j - 1)] else [])))
    (fun _ _ _ _ => rfl) (by
      intro i d L s' hd ⟨⟨a, b, hL⟩, g, hk, hc⟩
      have hi : i < m - 1 := by
        have := (List.getElem?_eq_some_iff.mp hd).1
        simpa [ways] using this
      have hd' : d = wy i := by
        unfold ways at hd
        rw [List.getElem?_map, List.getElem?_range hi] at hd
        exact (Option.some.inj hd).symm
      subst hd' hL
      have e0 := hc (i + 1) (by omega)
      have em : (if 0 < i + 1 ∧ i + 1 ≤ i then [cl (i + 1 - 1)] else [] : List D) = [] := by simp
      rw [em] at e0
      have e1 := i_App (fr := fE2 ixD (fvar 1) (fvar 3)) (fe := fvar 2) (L := [some (flo m), some (.ref K), some (cl i), some (cl (i + 1)), none]) (s := s') (s1 := s') (s2 := s') (n := s.length + 1 + (i + 1)) (x := cl (i)) (ds := []) (by simp -implicitDefEqProofs [gw hk (j := i + 1) (by omega)]) rfl e0 e0 (by simp only [List.length_nil]; omega)
      refine ⟨[some (flo m), some (.ref K), some (cl i), some (cl (i + 1)), none], s', _, _, rfl, by rw [e_Ex, e1]; rfl, ⟨_, _, rfl⟩, g.set (by omega) _, ?_, ?_⟩
      · rw [List.getElem?_set_ne (by omega), hk]
      · intro j hj
        by_cases e : j = i + 1
        · subst e
          rw [List.getElem?_set_self (List.getElem?_eq_some_iff.mp e0).1]
          simp
        · rw [List.getElem?_set_ne (by omega), hc j hj]
          congr 2
          by_cases h1 : 0 < j ∧ j ≤ i
          · rw [if_pos h1, if_pos (by omega)]
          · rw [if_neg h1, if_neg (by omega)])
    ⟨⟨none, none, rfl⟩, c2.trans (Gr.app _ _), by simp [hKe], fun j hj => by
      rw [List.getElem?_append_left (by omega), c4 j hj]
      rw [if_neg (by omega)]⟩
  obtain ⟨a, b, rfl⟩ := l2
  have lw : (ways m).length = m - 1 := by simp [ways]
  rw [lw] at l4
  refine ⟨K, s2, ?_, g2, by omega, ⟨fun ds => by rw [l3]; simp, fun j hj => ⟨s.length + 1 + j, ?_, ?_⟩⟩⟩
  · have e5 : gc s (.ref K) s2 = (.ref K, s2) := by
      unfold gc
      rw [if_neg]
      simp [D.low]
      omega
    simp -implicitDefEqProofs [F_goes_into, B_goes_into, run, startL, c1, d1, l1, e5]
  · have : dget s2 K (cl j) = some (valD kvs (.inr (nm j))) := by
      unfold dget
      rw [l3]
      rfl
    rw [this, hv j hj]
  · rw [l4 j hj]
    congr 2
    by_cases h1 : 0 < j
    · rw [if_pos h1, if_pos (by omega)]
    · rw [if_neg h1, if_neg (by omega)]
end FL

set_option Elab.async false
set_option linter.all false
set_option maxRecDepth 100000
set_option autoImplicit false
namespace FL
open PySem PySem.Spec PyProof.Rows L2
theorem nodup_le {α : Type} [DecidableEq α] : ∀ (l r : List α), l.Nodup → (∀ x ∈ l, x ∈ r) → l.length ≤ r.length
  | [], _, _, _ => Nat.zero_le _
  | a :: l, r, n, h => by
    rw [List.nodup_cons] at n
    have ha := h a (List.mem_cons_self ..)
    have := nodup_le l (r.erase a) n.2 fun x hx => by
      have hne : x ≠ a := fun e => n.1 (e ▸ hx)
      exact (List.mem_erase_of_ne hne).mpr (h x (List.mem_cons_of_mem _ hx))
    rw [List.length_erase_of_mem ha] at this
    have := List.length_pos_of_mem ha
    simp only [List.length_cons]
    omega
/-! ### nodes -/
def kq (i : Nat) (p : Int) : List Key := [.inr (nm i), .inl p]
def kt (k : Nat × Int) : D := .tup [cl k.1, .int k.2]
structure Vd (w : Wd) (G : Nat) (i : Nat) (p : Int) : Prop where
  i : i ≤ G
  lo : 0 ≤ p
  hi : p < w.R
theorem kq_inj {i j : Nat} {p q : Int} (hi : i < 6) (hj : j < 6) (h : kq i p = kq j q) : i = j ∧ p = q := by
  unfold kq at h
  injection h with h1 h2
  injection h1 with h1
  injection h2 with h2 _
  injection h2 with h2
  exact ⟨nm_inj hi hj h1, h2⟩
def nodes (w : Wd) (G : Nat) : List (Nat × Int) := (List.range (G + 1)).flatMap fun i => (List.range w.R).map fun (p : Nat) => (i, (p : Int))
theorem mem_nodes {w : Wd} {G i : Nat} {p : Int} (h : Vd w G i p) : (i, p) ∈ nodes w G := by
  unfold nodes
  rw [List.mem_flatMap]
  have h1 := h.i
  have h2 := h.lo
  have h3 := h.hi
  exact ⟨i, List.mem_range.mpr (by omega), List.mem_map.mpr ⟨p.toNat, List.mem_range.mpr (by omega), by rw [Int.toNat_of_nonneg h.lo]⟩⟩
theorem nodes_len {w : Wd} (o : w.Ok) {G : Nat} (hG : G < 6) : (nodes w G).length ≤ 72 := by
  have r12 := o.r12
  have e : (nodes w G).length = (G + 1) * w.R := by
    unfold nodes
    rw [List.length_flatMap]
    generalize G + 1 = n
    induction n with
    | zero => simp
    | succ n ih =>
      rw [List.range_succ, List.map_append, List.sum_append, ih, Nat.succ_mul]
      simp
  rw [e]
  have := Nat.mul_le_mul (show G + 1 ≤ 6 by omega) r12
  omega
/-! ### stores and dicts -/
theorem i_Put {fv fo fi : FE} {L : Loc} {s s1 s2 s3 s4 : Sto} {v o i : D} (h1 : fv L s = some (v, s1)) (h2 : fo L s1 = some (o, s2)) (h3 : fi L s2 = some (i, s3)) (h4 : putO o i v s3 = some s4) : fPut fv fo fi L s = some (.nx, L, s4) := by
  unfold fPut
  rw [h1]
  simp only [Option.bind_some]
  rw [h2]
  simp only [Option.bind_some]
  rw [h3]
  simp only [Option.bind_some]
  rw [h4]
  rfl
theorem putO_T {n : Nat} {s : Sto} {kvs : List (List Key × D)} {ds : List D} {k : List Key} {v : D} (h : s[n]? = some (.dT kvs)) (hk : keysD ds = some k) (hz : kvs.length < sizeLine) : putO (.ref n) (.tup ds) v s = some (s.set n (.dT (putD kvs k v))) := by
  unfold putO
  simp only [h]
  unfold dput
  simp only [h, hk, Option.bind_some]
  exact if_pos hz
theorem putO_K {n : Nat} {s : Sto} {kvs : List (Key × D)} {i : D} {k : Key} {v : D} (h : s[n]? = some (.dK kvs)) (hk : keyD i = some k) (hz : kvs.length < sizeLine) : putO (.ref n) i v s = some (s.set n (.dK (putD kvs k v))) := by
  unfold putO
  simp only [h]
  unfold dput
  simp only [h, hk, Option.bind_some]
  exact if_pos hz
theorem i_Setd_old {fd fk fx : FE} {L : Loc} {s s1 s2 s3 : Sto} {n : Nat} {y x d : D} {kvs : List (Key × D)} {k : Key} (h1 : fd L s = some (.ref n, s1)) (hd : s1[n]? = some (.dK kvs)) (h2 : fk L s1 = some (y, s2)) (h3 : fx L s2 = some (x, s3)) (h4 : s3[n]? = some (.dK kvs)) (hk : keyD y = some k) (hz : kvs.length < sizeLine) (hv : valD kvs k = some d) :
    fSetd fd fk fx L s = some (d, s3) := by
  have e : isDictR s1 (.ref n) = true := by
    unfold isDictR
    simp only [hd]
    rfl
  unfold fSetd
  rw [h1]
  simp only [Option.bind_some]
  rw [if_pos e, h2]
  simp only [Option.bind_some]
  rw [h3]
  simp only [Option.bind_some, h4, hk, hv]
  exact if_pos hz
theorem i_Setd_new {fd fk fx : FE} {L : Loc} {s s1 s2 s3 : Sto} {n : Nat} {y x : D} {kvs : List (Key × D)} {k : Key} (h1 : fd L s = some (.ref n, s1)) (hd : s1[n]? = some (.dK kvs)) (h2 : fk L s1 = some (y, s2)) (h3 : fx L s2 = some (x, s3)) (h4 : s3[n]? = some (.dK kvs)) (hk : keyD y = some k) (hz : kvs.length < sizeLine) (hv : valD kvs k = none) :
    fSetd fd fk fx L s = some (x, s3.set n (.dK (putD kvs k x))) := by
  have e : isDictR s1 (.ref n) = true := by
    unfold isDictR
    simp only [hd]
    rfl
  unfold fSetd
  rw [h1]
  simp only [Option.bind_some]
  rw [if_pos e, h2]
  simp only [Option.bind_some]
  rw [h3]
  simp only [Option.bind_some, h4, hk, hv]
  exact if_pos hz
theorem i_App' {fr fe : FE} {L : Loc} {s s1 s2 : Sto} {n : Nat} {x : D} {ds : List D} (h1 : fr L s = some (.ref n, s1)) (h2 : fe L s1 = some (x, s2)) (h3 : s1[n]? = some (.lst ds)) (h4 : s2[n]? = some (.lst ds)) (h5 : ds.length < sizeLine) :
    fEx (fM "list" appD fr (fAc fe fA0)) L s = some (.nx, L, s2.set n (.lst (ds ++ [x]))) := by
  rw [e_Ex, i_App h1 h2 h3 h4 h5]
  rfl
section
variable {κ : Type} [DecidableEq κ]
theorem val_mem {k : κ} {d : D} : ∀ {kvs : List (κ × D)}, valD kvs k = some d → (k, d) ∈ kvs
  | a :: r, h => by
    unfold valD at h
    by_cases e : a.1 = k
    · rw [if_pos e] at h
      cases h
      subst e
      exact List.mem_cons_self ..
    · rw [if_neg e] at h
      exact List.mem_cons_of_mem _ (val_mem h)
theorem mem_val {k : κ} {d : D} : ∀ {kvs : List (κ × D)}, (kvs.map (·.1)).Nodup → (k, d) ∈ kvs → valD kvs k = some d
  | a :: r, n, h => by
    rw [List.map_cons, List.nodup_cons] at n
    unfold valD
    rcases List.mem_cons.mp h with rfl | h
    · rw [if_pos rfl]
    · have hne : ¬ a.1 = k := fun e => n.1 (by rw [e]; exact List.mem_map.mpr ⟨_, h, rfl⟩)
      rw [if_neg hne]
      exact mem_val n.2 h
theorem set_keys (k : κ) (d : D) : ∀ kvs : List (κ × D), (setD kvs k d).map (·.1) = kvs.map (·.1)
  | [] => rfl
  | a :: r => by
    unfold setD
    by_cases e : a.1 = k
    · rw [if_pos e, List.map_cons, List.map_cons, set_keys k d r]
    · rw [if_neg e, List.map_cons, List.map_cons, set_keys k d r]
theorem put_nodup {kvs : List (κ × D)} (n : (kvs.map (·.1)).Nodup) (k : κ) (d : D) : ((putD kvs k d).map (·.1)).Nodup := by
  unfold putD hasD
  by_cases h : (valD kvs k).isSome = true
  · rw [if_pos h, set_keys]
    exact n
  · rw [if_neg h, List.map_append, List.nodup_append]
    refine ⟨n, by simp, ?_⟩
    intro a ha b hb e
    simp only [List.map_cons, List.map_nil, List.mem_cons, List.not_mem_nil, or_false] at hb
    subst hb
    subst e
    obtain ⟨kv, hkv, e⟩ := List.mem_map.mp ha
    have := mem_val n (show (kv.1, kv.2) ∈ kvs from hkv)
    rw [e] at this
    rw [this] at h
    exact h rfl
theorem put_mem {kvs : List (κ × D)} (n : (kvs.map (·.1)).Nodup) {k : κ} {d : D} {kv : κ × D} (h : kv ∈ putD kvs k d) : kv = (k, d) ∨ (kv.1 ≠ k ∧ kv ∈ kvs) := by
  have e := mem_val (put_nodup n k d) (show (kv.1, kv.2) ∈ putD kvs k d from h)
  rw [val_put] at e
  by_cases h2 : k = kv.1
  · rw [if_pos h2] at e
    left
    injection e with e
    rw [e, h2]
  · rw [if_neg h2] at e
    right
    exact ⟨fun q => h2 q.symm, val_mem e⟩
end
end FL

set_option Elab.async false
set_option linter.all false
set_option maxRecDepth 100000
set_option autoImplicit false
namespace FL
open PySem PySem.Spec PyProof.Rows L2
/-- the successor's level -/
def slv (w : Wd) (G i : Nat) (p : Int) : Int := if opn w i p = true then lev w G (i + 1) (p + tk w i) else lev w G i (p + 1)
structure Lv (w : Wd) (G : Nat) (N : Int) (base s : Sto) (f l : Nat) (fo : List (List Key × D)) (lo : List (Key × D)) : Prop where
  gr : Gr base s
  hf : base.length ≤ f
  hl : base.length ≤ l
  fl : f ≠ l
  sf : s[f]? = some (.dT fo)
  sl : s[l]? = some (.dK lo)
  nf : (fo.map (·.1)).Nodup
  nl : (lo.map (·.1)).Nodup
  vf : ∀ kv ∈ fo, ∃ i p v, kv = (kq i p, .int v) ∧ Vd w G i p ∧ lev w G i p ≤ v
  vl : ∀ kv ∈ lo, ∃ (n : Int) (r : Nat) (ds : List (Nat × Int)), kv = (.inl n, .ref r) ∧ 0 ≤ n ∧ n ≤ 130 ∧ base.length ≤ r ∧ r ≠ f ∧ r ≠ l ∧ s[r]? = some (.lst (ds.map kt)) ∧ ds.Nodup ∧ ∀ k ∈ ds, Vd w G k.1 k.2 ∧ ∃ v, valD fo (kq k.1 k.2) = some (.int v) ∧ v ≤ n
  ap : ∀ (n n' : Int) (r : Nat), valD lo (.inl n) = some (.ref r) → valD lo (.inl n') = some (.ref r) → n = n'
  i3 : ∀ i p v, Vd w G i p → valD fo (kq i p) = some (.int v) → N ≤ v → ∃ (r : Nat) (ds : List (Nat × Int)), valD lo (.inl v) = some (.ref r) ∧ s[r]? = some (.lst (ds.map kt)) ∧ (i, p) ∈ ds
  st : ∀ i p, Vd w G i p → (i = G ∨ slv w G i p < N) → valD fo (kq i p) = some (.int (lev w G i p))
namespace Lv
variable {w : Wd} {G : Nat} {N : Int} {base s : Sto} {f l : Nat} {fo : List (List Key × D)} {lo : List (Key × D)}
theorem len_f (o : w.Ok) (hG : G < 6) (h : Lv w G N base s f l fo lo) : fo.length ≤ 72 := by
  have e := nodup_le (fo.map (·.1)) ((nodes w G).map fun k => kq k.1 k.2) h.nf (by
    intro x hx
    obtain ⟨kv, hkv, rfl⟩ := List.mem_map.mp hx
    obtain ⟨i, p, v, rfl, hv, _⟩ := h.vf kv hkv
    exact List.mem_map.mpr ⟨(i, p), mem_nodes hv, rfl⟩)
  have := nodes_len o hG
  simp only [List.length_map] at e
  omega
theorem len_l (h : Lv w G N base s f l fo lo) : lo.length ≤ 131 := by
  have e := nodup_le (lo.map (·.1)) ((List.range 131).map fun n : Nat => (.inl (n : Int) : Key)) h.nl (by
    intro x hx
    obtain ⟨kv, hkv, rfl⟩ := List.mem_map.mp hx
    obtain ⟨n, r, ds, rfl, h0, h1, _⟩ := h.vl kv hkv
    exact List.mem_map.mpr ⟨n.toNat, List.mem_range.mpr (by omega), by rw [Int.toNat_of_nonneg h0]⟩)
  simpa using e
theorem lot (h : Lv w G N base s f l fo lo) {n : Int} {d : D} (e : valD lo (.inl n) = some d) : ∃ (r : Nat) (ds : List (Nat × Int)), d = .ref r ∧ 0 ≤ n ∧ n ≤ 130 ∧ base.length ≤ r ∧ r ≠ f ∧ r ≠ l ∧ s[r]? = some (.lst (ds.map kt)) ∧ ds.Nodup ∧ ∀ k ∈ ds, Vd w G k.1 k.2 ∧ ∃ v, valD fo (kq k.1 k.2) = some (.int v) ∧ v ≤ n := by
  obtain ⟨n', r, ds, e2, rest⟩ := h.vl _ (val_mem e)
  injection e2 with e3 e4
  injection e3 with e3
  subst e3
  exact ⟨r, ds, e4, rest⟩
theorem fnd (h : Lv w G N base s f l fo lo) (hG : G < 6) {i : Nat} {p : Int} (hv : Vd w G i p) {d : D} (e : valD fo (kq i p) = some d) : ∃ v, d = .int v ∧ lev w G i p ≤ v := by
  obtain ⟨i', p', v, e2, hv', hl⟩ := h.vf _ (val_mem e)
  injection e2 with e3 e4
  have := hv.i
  have := hv'.i
  obtain ⟨rfl, rfl⟩ := kq_inj (by omega) (by omega) e3
  exact ⟨v, e4, hl⟩
theorem len_d (o : w.Ok) (hG : G < 6) {ds : List (Nat × Int)} (n : ds.Nodup) (hv : ∀ k ∈ ds, Vd w G k.1 k.2) : ds.length ≤ 72 := by
  have := nodup_le ds (nodes w G) n fun k hk => mem_nodes (hv k hk)
  have := nodes_len o hG
  omega
end Lv
end FL

set_option Elab.async false
set_option linter.all false
set_option maxRecDepth 100000
set_option autoImplicit false
namespace FL
open PySem PySem.Spec PyProof.Rows L2
namespace Lv
variable {w : Wd} {G : Nat} {N : Int} {base s : Sto} {f l : Nat} {fo : List (List Key × D)} {lo : List (Key × D)}
/-- a better value is written -/
theorem put (h : Lv w G N base s f l fo lo) (hG : G < 6) {i : Nat} {p m : Int} (hv : Vd w G i p) (hm : lev w G i p ≤ m) (hN : N < m) (h0 : 0 ≤ m) (h130 : m ≤ 130) (hc : ∀ v, valD fo (kq i p) = some (.int v) → m < v)
    {t : Sto} {lo' : List (Key × D)} {r : Nat} {ds : List (Nat × Int)} (gr : Gr base t) (sf : t[f]? = some (.dT (putD fo (kq i p) (.int m)))) (sl : t[l]? = some (.dK lo')) (nl : (lo'.map (·.1)).Nodup)
    (vm : valD lo' (.inl m) = some (.ref r)) (vn : ∀ n, n ≠ m → valD lo' (.inl n) = valD lo (.inl n)) (ks : ∀ kv ∈ lo', ∃ n : Int, kv.1 = .inl n) (hr : base.length ≤ r) (rf : r ≠ f) (rl : r ≠ l) (tr : t[r]? = some (.lst ((ds ++ [(i, p)]).map kt)))
    (nd : ds.Nodup) (hd : ∀ k ∈ ds, Vd w G k.1 k.2 ∧ ∃ v, valD fo (kq k.1 k.2) = some (.int v) ∧ v ≤ m) (ru : ∀ n, valD lo (.inl n) = some (.ref r) → n = m) (od : ∀ (r' : Nat) (ds' : List (Nat × Int)), valD lo (.inl m) = some (.ref r') → s[r']? = some (.lst (ds'.map kt)) → ∀ k ∈ ds', k.1 < 6 → k ∈ ds)
    (ke : ∀ a, a < s.length → a ≠ f → a ≠ l → a ≠ r → t[a]? = s[a]?) : Lv w G N base t f l (putD fo (kq i p) (.int m)) lo' := by
  have hi := hv.i
  have key : ∀ {j : Nat} {q : Int}, Vd w G j q → kq i p = kq j q → i = j ∧ p = q := fun hj e => kq_inj (by omega) (by have := hj.i; omega) e
  have low : ∀ {k : Nat × Int} {n : Int}, Vd w G k.1 k.2 → (∃ v, valD fo (kq k.1 k.2) = some (.int v) ∧ v ≤ n) → ∃ v, valD (putD fo (kq i p) (.int m)) (kq k.1 k.2) = some (.int v) ∧ v ≤ n := by
    intro k n hk ⟨v, e, hvn⟩
    rw [val_put]
    by_cases e2 : kq i p = kq k.1 k.2
    · rw [if_pos e2]
      rw [← e2] at e
      have := hc v e
      exact ⟨m, rfl, by omega⟩
    · rw [if_neg e2]
      exact ⟨v, e, hvn⟩
  refine ⟨gr, h.hf, h.hl, h.fl, sf, sl, put_nodup h.nf _ _, nl, ?_, ?_, ?_, ?_, ?_⟩
  · intro kv hkv
    rcases put_mem h.nf hkv with rfl | ⟨_, hkv⟩
    · exact ⟨i, p, m, rfl, hv, hm⟩
    · exact h.vf kv hkv
  · intro kv hkv
    obtain ⟨n, hn⟩ := ks kv hkv
    have e := mem_val nl (show (kv.1, kv.2) ∈ lo' from hkv)
    rw [hn] at e
    by_cases h2 : n = m
    · subst h2
      rw [vm] at e
      have e3 : kv = (.inl n, .ref r) := by
        rw [← hn, Option.some.inj e]
      refine ⟨n, r, ds ++ [(i, p)], e3, h0, h130, hr, rf, rl, tr, ?_, ?_⟩
      · rw [List.nodup_append]
        refine ⟨nd, by simp, ?_⟩
        intro a ha b hb e4
        simp only [List.mem_cons, List.not_mem_nil, or_false] at hb
        subst hb
        subst e4
        obtain ⟨_, v, e5, hv5⟩ := hd _ ha
        have := hc v e5
        omega
      · intro k hk
        rcases List.mem_append.mp hk with hk | hk
        · obtain ⟨a, b⟩ := hd k hk
          exact ⟨a, low a b⟩
        · simp only [List.mem_cons, List.not_mem_nil, or_false] at hk
          subst hk
          refine ⟨hv, n, ?_, ?_⟩
          · rw [val_put, if_pos rfl]
          · exact Int.le_refl _
    · rw [vn n h2] at e
      obtain ⟨r', ds', e3, a1, a2, a3, a4, a5, a6, a7, a8⟩ := h.lot e
      have hlt := (List.getElem?_eq_some_iff.mp a6).1
      have hne : r' ≠ r := fun q => h2 (ru n (by rw [e, e3, q]))
      refine ⟨n, r', ds', by rw [← hn, ← e3], a1, a2, a3, a4, a5, by rw [ke r' hlt a4 a5 hne, a6], a7, fun k hk => ?_⟩
      obtain ⟨a, b⟩ := a8 k hk
      exact ⟨a, low a b⟩
  · intro n n' r' e e'
    by_cases h2 : n = m
    · by_cases h3 : n' = m
      · rw [h2, h3]
      · rw [h2, vm] at e
        injection e with e
        injection e with e
        subst e
        rw [vn n' h3] at e'
        exact absurd (ru n' e') h3
    · by_cases h3 : n' = m
      · rw [h3, vm] at e'
        injection e' with e'
        injection e' with e'
        subst e'
        rw [vn n h2] at e
        exact absurd (ru n e) h2
      · rw [vn n h2] at e
        rw [vn n' h3] at e'
        exact h.ap n n' r' e e'
  · intro j q v hj e hNv
    rw [val_put] at e
    by_cases h2 : kq i p = kq j q
    · rw [if_pos h2] at e
      obtain ⟨rfl, rfl⟩ := key hj h2
      injection e with e
      injection e with e
      subst e
      exact ⟨r, _, vm, tr, by simp⟩
    · rw [if_neg h2] at e
      obtain ⟨r', ds', e1, e2, e3⟩ := h.i3 j q v hj e hNv
      by_cases h3 : v = m
      · subst h3
        exact ⟨r, _, vm, tr, List.mem_append_left _ (od r' ds' e1 e2 _ e3 (by have := hj.i; show j < 6; omega))⟩
      · obtain ⟨r2, ds2, e4, a1, a2, a3, a4, a5, a6, _⟩ := h.lot e1
        injection e4 with e4
        subst e4
        have hne : r' ≠ r := fun q => h3 (ru v (by rw [e1, q]))
        exact ⟨r', ds', by rw [vn v h3, e1], by rw [ke r' (List.getElem?_eq_some_iff.mp e2).1 a4 a5 hne, e2], e3⟩
  · intro j q hj hs
    have e := h.st j q hj hs
    rw [val_put]
    by_cases h2 : kq i p = kq j q
    · obtain ⟨rfl, rfl⟩ := key hj h2
      have := hc _ e
      omega
    · rw [if_neg h2]
      exact e
end Lv
end FL

set_option Elab.async false
set_option linter.all false
set_option maxRecDepth 100000
set_option autoImplicit false
namespace FL
open PySem PySem.Spec PyProof.Rows L2
def fRelax : FS := fIfS (fOr (fTb (fE2 notInD (fvar 13) (fvar 6))) (fTb (fE2 ltD (fvar 14) (fE2 ixD (fvar 6) (fvar 13))))) (fSq (fPut (fvar 14) (fvar 6) (fvar 13))
    (fEx (fM "list" appD (fSetd (fvar 7) (fvar 14) (fLst fA0)) (fAc (fvar 13) fA0)))) fNx
theorem v_at {i : Nat} {L : Loc} {d : D} (h : L[i]? = some (some d)) (s : Sto) : fvar i L s = some (d, s) := by simp [fvar, h]
theorem get_T {f : Nat} {s : Sto} {fo : List (List Key × D)} (h : s[f]? = some (.dT fo)) (k : Nat × Int) : dget s f (kt k) = some (valD fo (kq k.1 k.2)) := by
  unfold dget
  rw [h]
  rfl
theorem nl_T {f : Nat} {s : Sto} {fo : List (List Key × D)} (h : s[f]? = some (.dT fo)) : ∀ ds, s[f]? ≠ some (.lst ds) ∧ s[f]? ≠ some (.rol ds) ∧ s[f]? ≠ some (.lk (.lst ds)) := fun ds => by rw [h]; simp
theorem in_T {f : Nat} {s : Sto} {fo : List (List Key × D)} (h : s[f]? = some (.dT fo)) (k : Nat × Int) : inD (kt k) (.ref f) s = some (.bl (valD fo (kq k.1 k.2)).isSome, s) ∧ notInD (kt k) (.ref f) s = some (.bl (!(valD fo (kq k.1 k.2)).isSome), s) := by
  have e := get_T h k
  constructor
  · unfold inD inS
    simp only [h, e]
    rfl
  · unfold notInD inS
    simp only [h, e]
    rfl
namespace Lv
variable {w : Wd} {G : Nat} {N : Int} {base s : Sto} {f l : Nat} {fo : List (List Key × D)} {lo : List (Key × D)}
theorem store (o : w.Ok) (h : Lv w G N base s f l fo lo) (hG : G < 6) {i : Nat} {p m : Int} (hv : Vd w G i p) (hm : lev w G i p ≤ m) (hN : N < m) (h0 : 0 ≤ m) (h130 : m ≤ 130) (hc : ∀ v, valD fo (kq i p) = some (.int v) → m < v)
    {L : Loc} (L6 : L[6]? = some (some (.ref f))) (L7 : L[7]? = some (some (.ref l))) (L13 : L[13]? = some (some (kt (i, p)))) (L14 : L[14]? = some (some (.int m))) :
    ∃ t lo', fSq (fPut (fvar 14) (fvar 6) (fvar 13)) (fEx (fM "list" appD (fSetd (fvar 7) (fvar 14) (fLst fA0)) (fAc (fvar 13) fA0))) L s = some (.nx, L, t) ∧ Lv w G N base t f l (putD fo (kq i p) (.int m)) lo' ∧
    (∀ a, a < s.length → a ≠ f → a ≠ l → (∀ r, valD lo (.inl m) = some (.ref r) → a ≠ r) → t[a]? = s[a]?) ∧ s.length ≤ t.length ∧ ∀ n, n ≠ m → valD lo' (.inl n) = valD lo (.inl n) := by
  have hs : sizeLine = 16777216 := sizeLine_eq
  have z1 := h.len_f o hG
  have z2 := h.len_l
  have lf := (List.getElem?_eq_some_iff.mp h.sf).1
  have ll := (List.getElem?_eq_some_iff.mp h.sl).1
  have p1 := i_Put (v_at L14 s) (v_at L6 s) (v_at L13 s) (putO_T (ds := [cl i, .int p]) (k := kq i p) (v := .int m) h.sf rfl (by omega))
  obtain ⟨s1, hs1⟩ : ∃ s1, s1 = s.set f (.dT (putD fo (kq i p) (.int m))) := ⟨_, rfl⟩
  rw [← hs1] at p1
  have n1 : s1.length = s.length := by rw [hs1]; simp
  have q1 : s1[l]? = some (.dK lo) := by rw [hs1, List.getElem?_set_ne h.fl, h.sl]
  have q1' : s1[f]? = some (.dT (putD fo (kq i p) (.int m))) := by rw [hs1, List.getElem?_set_self lf]
  have e2 : fLst fA0 L s1 = some (.ref s1.length, s1 ++ [.lst []]) := by simp [sz]
  have q2 : (s1 ++ [O.lst []])[l]? = some (.dK lo) := by rw [List.getElem?_append_left (by omega), q1]
  have q2' : (s1 ++ [O.lst []])[f]? = some (.dT (putD fo (kq i p) (.int m))) := by rw [List.getElem?_append_left (by omega), q1']
  have g1 : Gr base s1 := by rw [hs1]; exact h.gr.set h.hf _
  have fin : ∀ {x : Fl × Loc × Sto}, fEx (fM "list" appD (fSetd (fvar 7) (fvar 14) (fLst fA0)) (fAc (fvar 13) fA0)) L s1 = some x → fSq (fPut (fvar 14) (fvar 6) (fvar 13)) (fEx (fM "list" appD (fSetd (fvar 7) (fvar 14) (fLst fA0)) (fAc (fvar 13) fA0))) L s = some x := by
    intro x hx
    unfold fSq
    rw [p1]
    exact hx
  have keep : ∀ a, a < s.length → a ≠ f → (s1 ++ [O.lst []])[a]? = s[a]? := by
    intro a ha hf
    rw [List.getElem?_append_left (by omega), hs1, List.getElem?_set_ne (fun e => hf e.symm)]
  rcases hlo : valD lo (.inl m) with _ | d
  · have e3 := i_Setd_new (v_at L7 s1) q1 (v_at L14 s1) e2 q2 (k := .inl m) rfl (by omega) hlo
    have a1 : ((s1 ++ [O.lst []]).set l (.dK (putD lo (.inl m) (.ref s1.length))))[s1.length]? = some (.lst []) := by
      rw [List.getElem?_set_ne (by omega)]
      simp
    have e4 := i_App' e3 (v_at L13 _) a1 a1 (by simp only [List.length_nil]; omega)
    refine ⟨_, putD lo (.inl m) (.ref s1.length), fin e4, ?_, ?_, ?_, ?_⟩
    · refine h.put hG hv hm hN h0 h130 hc (r := s1.length) (ds := []) (((g1.trans (Gr.app _ _)).set h.hl _).set (by have := h.hf; omega) _) ?_ ?_ (put_nodup h.nl _ _) (by rw [val_put, if_pos rfl]) (fun n hn => by
        rw [val_put, if_neg]
        intro e
        injection e with e
        exact hn e.symm) ?_ (by have := h.hf; omega) (by omega) (by omega) ?_ List.nodup_nil (fun k hk => by cases hk) ?_ (fun r' ds' e => by rw [hlo] at e; cases e) ?_
      · rw [List.getElem?_set_ne (by omega), List.getElem?_set_ne (fun e => h.fl e.symm), q2']
      · rw [List.getElem?_set_ne (by omega), List.getElem?_set_self (by simp; omega)]
      · intro kv hkv
        rcases put_mem h.nl hkv with rfl | ⟨_, hkv⟩
        · exact ⟨m, rfl⟩
        · obtain ⟨n, r, ds, rfl, _⟩ := h.vl kv hkv
          exact ⟨n, rfl⟩
      · rw [List.getElem?_set_self (by simp)]
        rfl
      · intro n e
        obtain ⟨r', ds', e5, _, _, _, _, _, a6, _⟩ := h.lot e
        injection e5 with e5
        have := (List.getElem?_eq_some_iff.mp a6).1
        omega
      · intro a ha af al ar
        rw [List.getElem?_set_ne (fun e => ar e.symm), List.getElem?_set_ne (fun e => al e.symm), keep a ha af]
    · intro a ha af al ar
      rw [List.getElem?_set_ne (by omega), List.getElem?_set_ne (fun e => al e.symm), keep a ha af]
    · simp
      omega
    · intro n hn
      rw [val_put, if_neg]
      intro e
      injection e with e
      exact hn e.symm
  · obtain ⟨r, ds, rfl, b1, b2, b3, b4, b5, b6, b7, b8⟩ := h.lot hlo
    have lr := (List.getElem?_eq_some_iff.mp b6).1
    have e3 := i_Setd_old (v_at L7 s1) q1 (v_at L14 s1) e2 q2 (k := .inl m) rfl (by omega) hlo
    have a1 : (s1 ++ [O.lst []])[r]? = some (.lst (ds.map kt)) := by rw [keep r lr b4, b6]
    have zd := len_d o hG b7 fun k hk => (b8 k hk).1
    have e4 := i_App' e3 (v_at L13 _) a1 a1 (by rw [List.length_map]; omega)
    refine ⟨_, lo, fin e4, ?_, ?_, ?_, ?_⟩
    · refine h.put hG hv hm hN h0 h130 hc (r := r) (ds := ds) ((g1.trans (Gr.app _ _)).set b3 _) ?_ ?_ h.nl hlo (fun n hn => rfl) ?_ b3 b4 b5 ?_ b7 b8 (fun n e => h.ap n m r e hlo) ?_ ?_
      · rw [List.getElem?_set_ne b4, q2']
      · rw [List.getElem?_set_ne b5, q2]
      · intro kv hkv
        obtain ⟨n, r, ds, rfl, _⟩ := h.vl kv hkv
        exact ⟨n, rfl⟩
      · rw [List.getElem?_set_self (by simp; omega), List.map_append]
        rfl
      · intro r' ds' e e6 k hk hk6
        rw [hlo] at e
        injection e with e
        injection e with e
        subst e
        rw [b6] at e6
        injection e6 with e6
        injection e6 with e6
        have e7 : kt k ∈ ds.map kt := by
          rw [e6]
          exact List.mem_map.mpr ⟨k, hk, rfl⟩
        obtain ⟨k0, hk0, e8⟩ := List.mem_map.mp e7
        have hv0 := (b8 k0 hk0).1.i
        unfold kt cl at e8
        injection e8 with e8
        injection e8 with e9 e10
        injection e9 with e9
        injection e10 with e10 _
        injection e10 with e10
        have e11 := nm_inj (by omega) hk6 e9
        have : k0 = k := Prod.ext e11 e10
        rw [← this]
        exact hk0
      · intro a ha af al ar
        rw [List.getElem?_set_ne (fun e => ar e.symm), keep a ha af]
    · intro a ha af al ar
      rw [List.getElem?_set_ne (fun e => ar r rfl e.symm), keep a ha af]
    · simp
      omega
    · intro n hn
      rfl
end Lv
end FL

set_option Elab.async false
set_option linter.all false
set_option maxRecDepth 100000
set_option autoImplicit false
namespace FL
open PySem PySem.Spec PyProof.Rows L2
namespace Lv
variable {w : Wd} {G : Nat} {N : Int} {base s : Sto} {f l : Nat} {fo : List (List Key × D)} {lo : List (Key × D)}
def RelTo (w : Wd) (G : Nat) (N : Int) (base s : Sto) (f l : Nat) (fo : List (List Key × D)) (lo : List (Key × D)) (i : Nat) (p m : Int) (L : Loc) : Prop :=
    ∃ t fo' lo', fRelax L s = some (.nx, L, t) ∧ Lv w G N base t f l fo' lo' ∧ (∃ v, valD fo' (kq i p) = some (.int v) ∧ v ≤ m) ∧ (∀ k v, valD fo k = some (.int v) → ∃ v', valD fo' k = some (.int v') ∧ v' ≤ v) ∧
    (∀ a, a < s.length → a ≠ f → a ≠ l → (∀ r, valD lo (.inl m) = some (.ref r) → a ≠ r) → t[a]? = s[a]?) ∧ s.length ≤ t.length ∧ ∀ n, n ≠ m → valD lo' (.inl n) = valD lo (.inl n)
theorem relax (o : w.Ok) (h : Lv w G N base s f l fo lo) (hG : G < 6) {i : Nat} {p m : Int} (hv : Vd w G i p) (hm : lev w G i p ≤ m) (hN : N < m) (h0 : 0 ≤ m) (h130 : m ≤ 130)
    {L : Loc} (L6 : L[6]? = some (some (.ref f))) (L7 : L[7]? = some (some (.ref l))) (L13 : L[13]? = some (some (kt (i, p)))) (L14 : L[14]? = some (some (.int m))) :
    RelTo w G N base s f l fo lo i p m L := by
  have hin := (in_T h.sf (i, p)).2
  have cond : ∀ (b : Bool), fOr (fTb (fE2 notInD (fvar 13) (fvar 6))) (fTb (fE2 ltD (fvar 14) (fE2 ixD (fvar 6) (fvar 13)))) L s = some (b, s) → ∀ {x}, (if b = true then fSq (fPut (fvar 14) (fvar 6) (fvar 13)) (fEx (fM "list" appD (fSetd (fvar 7) (fvar 14) (fLst fA0)) (fAc (fvar 13) fA0))) L s else some (.nx, L, s)) = some x → fRelax L s = some x := by
    intro b hb x hx
    unfold fRelax fIfS
    rw [hb]
    exact hx
  have better : (∀ v, valD fo (kq i p) = some (.int v) → m < v) → fOr (fTb (fE2 notInD (fvar 13) (fvar 6))) (fTb (fE2 ltD (fvar 14) (fE2 ixD (fvar 6) (fvar 13)))) L s = some (true, s) → RelTo w G N base s f l fo lo i p m L := fun hc hb => by
    obtain ⟨t, lo', e1, e2, e3, e4, e5⟩ := h.store o hG hv hm hN h0 h130 hc L6 L7 L13 L14
    exact ⟨t, _, lo', cond true hb (by rw [if_pos rfl]; exact e1), e2, ⟨m, by rw [val_put, if_pos rfl], Int.le_refl _⟩, fun k v e => by
      rw [val_put]
      by_cases h2 : kq i p = k
      · rw [if_pos h2]
        have := hc v (by rw [h2]; exact e)
        exact ⟨m, rfl, by omega⟩
      · rw [if_neg h2]
        exact ⟨v, e, Int.le_refl _⟩, e3, e4, e5⟩
  rcases hf : valD fo (kq i p) with _ | d
  · refine better (fun v e => by rw [hf] at e; cases e) ?_
    rw [hf] at hin
    simp -implicitDefEqProofs [L13, L6, hin]
  · obtain ⟨v, rfl, hlv⟩ := h.fnd hG hv hf
    rw [hf] at hin
    have hix : ixD (.ref f) (kt (i, p)) s = some (.int v, s) := ix_ref (nl_T h.sf) (by rw [get_T h.sf, hf])
    by_cases hlt : m < v
    · refine better (fun v' e => by rw [hf] at e; injection e with e; injection e with e; omega) ?_
      simp -implicitDefEqProofs [L13, L6, L14, hin, hix, hlt]
    · refine ⟨s, fo, lo, cond false ?_ (by rfl), h, ⟨v, hf, by omega⟩, fun k v e => ⟨v, e, Int.le_refl _⟩, fun _ _ _ _ _ => rfl, Nat.le_refl _, fun _ _ => rfl⟩
      simp -implicitDefEqProofs [L13, L6, L14, hin, hix, hlt]
end Lv
end FL

set_option Elab.async false
set_option linter.all false
set_option maxRecDepth 100000
set_option autoImplicit false
namespace FL
open PySem PySem.Spec PyProof.Rows L2
/-- the locals of levels_by -/
def lvL (w : Wd) (G k q f l : Nat) (N : Int) (x9 x10 x11 x12 x13 x14 x15 x16 x17 : Option D) : Loc :=
  [some (flo w.m), some (gates w), some (cl G), some (.ref k), some (.int w.R), some (.ref q), some (.ref f), some (.ref l), some (.int N), x9, x10, x11, x12, x13, x14, x15, x16, x17]
def row (i : Nat) (p m : Int) : D := .tup [kt (i, p), .int m]
/-- the row by the way into a cell -/
def wrow (w : Wd) (i : Nat) (p N : Int) : List D := match i with
  | 0 => []
  | j + 1 => if opn w j (p - tk w j) = true then [row j ((p - tk w j) % w.R) (N + tk w j)] else []
theorem Lv.grow {w : Wd} {G : Nat} {N : Int} {base s t : Sto} {f l : Nat} {fo : List (List Key × D)} {lo : List (Key × D)} (h : Lv w G N base s f l fo lo) (g : Gr s t) : Lv w G N base t f l fo lo := by
  refine ⟨h.gr.trans g, h.hf, h.hl, h.fl, g.at h.sf, g.at h.sl, h.nf, h.nl, h.vf, ?_, h.ap, ?_, h.st⟩
  · intro kv hkv
    obtain ⟨n, r, ds, a0, a1, a2, a3, a4, a5, a6, a7⟩ := h.vl kv hkv
    exact ⟨n, r, ds, a0, a1, a2, a3, a4, a5, g.at a6, a7⟩
  · intro i p v hv e hN
    obtain ⟨r, ds, a1, a2, a3⟩ := h.i3 i p v hv e hN
    exact ⟨r, ds, a1, g.at a2, a3⟩
theorem i_Ext {fr fe : FE} {L : Loc} {s s1 s2 : Sto} {n k : Nat} {ds es : List D} (h1 : fr L s = some (.ref n, s1)) (h2 : fe L s1 = some (.ref k, s2)) (h3 : s1[n]? = some (.lst ds)) (h4 : s2[n]? = some (.lst ds)) (h6 : s2[k]? = some (.lst es)) (h5 : ds.length + es.length ≤ sizeLine) :
    fEx (fM "list" extD fr (fAc fe fA0)) L s = some (.nx, L, s2.set n (.lst (ds ++ es))) := by
  have t : tyD "list" s1 (.ref n) = true := by simp [tyD, lstD, h3]
  have a : extD (.ref n) [.ref k] s2 = some (.non, s2.set n (.lst (ds ++ es))) := by
    unfold extD
    simp only [h4, h6]
    exact if_pos h5
  simp -implicitDefEqProofs [h1, t, h2, a]
def fRowA : FS := fAs (fLst (fAc (fTup (fAc (fTup (fAc (fvar 9) (fAc (fE2 modD (fE2 subD (fvar 10) (fC (.int 1))) (fvar 4)) fA0))) (fAc (fE2 addD (fvar 8) (fC (.int 1))) fA0))) fA0)) (fNm 11)
def fRowB : FS := fFor (fSeqI (fE2 ixD (fvar 5) (fvar 9))) (fNm 12)
    (fSq (fAs (fCall F_takes_of (fAc (fvar 3) (fAc (fTup (fAc (fvar 12) (fAc (fvar 9) fA0))) fA0))) (fNm 15))
    (fSq (fAs (fE2 modD (fE2 subD (fvar 10) (fvar 15)) (fvar 4)) (fNm 16))
    (fEx (fM "list" extD (fvar 11) (fAc (fIf (fTb (fCall F_is_open (fAc (fvar 3) (fAc (fTup (fAc (fvar 12) (fAc (fvar 9) fA0))) (fAc (fvar 16) fA0))))) (fLst (fAc (fTup (fAc (fTup (fAc (fvar 12) (fAc (fvar 16) fA0))) (fAc (fE2 addD (fvar 8) (fvar 15)) fA0))) fA0)) (fLst fA0)) fA0)))))
theorem rows_ok {w : Wd} (o : w.Ok) {G k q f l i : Nat} {N p : Int} (hi : i < w.m) {s : Sto} (hk : Kn w k s) (hkl : k < s.length) (hq : Nbinto w.m q s) (hql : q < s.length) (x11 x12 x13 x14 x15 x16 x17 : Option D) :
    ∃ t y12 y15 y16, fSq fRowA fRowB (lvL w G k q f l N (some (cl i)) (some (.int p)) x11 x12 x13 x14 x15 x16 x17) s = some (.nx, lvL w G k q f l N (some (cl i)) (some (.int p)) (some (.ref s.length)) y12 x13 x14 y15 y16 x17, t) ∧
      Gr s t ∧ t[s.length]? = some (.lst (row i ((p - 1) % w.R) (N + 1) :: wrow w i p N)) := by
  have r1 := o.r1
  have hR : (0 : Int) < w.R := by omega
  have eA : fRowA (lvL w G k q f l N (some (cl i)) (some (.int p)) x11 x12 x13 x14 x15 x16 x17) s = some (.nx, lvL w G k q f l N (some (cl i)) (some (.int p)) (some (.ref s.length)) x12 x13 x14 x15 x16 x17, s ++ [.lst [row i ((p - 1) % w.R) (N + 1)]]) := by
    simp -implicitDefEqProofs [fRowA, lvL, o_mod hR, sz1, sz2, row, kt]
  obtain ⟨s1, hs1⟩ : ∃ s1, s1 = s ++ [O.lst [row i ((p - 1) % w.R) (N + 1)]] := ⟨_, rfl⟩
  rw [← hs1] at eA
  have g1 : Gr s s1 := ⟨_, hs1⟩
  have b1 : s1[s.length]? = some (.lst [row i ((p - 1) % w.R) (N + 1)]) := by rw [hs1]; simp
  have hk1 : Kn w k s1 := by
    unfold Kn at *
    rw [hs1, List.getElem?_append_left hkl]
    exact hk
  have hqs : s1[q]? = s[q]? := by rw [hs1, List.getElem?_append_left hql]
  obtain ⟨a, d1, d2⟩ := hq.at' i hi
  have d1' : dget s1 q (cl i) = some (some (.ref a)) := by
    have : dget s1 q (cl i) = dget s q (cl i) := by unfold dget; rw [hqs]
    rw [this, d1]
  have ix1 : ixD (.ref q) (cl i) s1 = some (.ref a, s1) := ix_ref (fun ds => by rw [hqs]; exact hq.nl ds) d1'
  have d2' := g1.at d2
  have fin : ∀ {x}, fRowB (lvL w G k q f l N (some (cl i)) (some (.int p)) (some (.ref s.length)) x12 x13 x14 x15 x16 x17) s1 = some x → fSq fRowA fRowB (lvL w G k q f l N (some (cl i)) (some (.int p)) x11 x12 x13 x14 x15 x16 x17) s = some x := by
    intro x hx
    unfold fSq
    rw [eA]
    exact hx
  have eI : fSeqI (fE2 ixD (fvar 5) (fvar 9)) (lvL w G k q f l N (some (cl i)) (some (.int p)) (some (.ref s.length)) x12 x13 x14 x15 x16 x17) s1 = some (⟨if 0 < i then [cl (i - 1)] else [], [(a, .lst (if 0 < i then [cl (i - 1)] else []))]⟩, s1) := by
    simp -implicitDefEqProofs [fSeqI, lvL, ix1, seqI, d2']
  rcases i with _ | j
  · refine ⟨s1, x12, x15, x16, fin ?_, g1, by rw [b1]; rfl⟩
    have st : stands [(a, O.lst [])] s1 = true := stands_of fun c hc => by
      simp only [List.mem_cons, List.not_mem_nil, or_false] at hc
      subst hc
      exact d2'
    unfold fRowB fFor
    rw [eI]
    simp -implicitDefEqProofs [fLoop, st]
  · have hj : j < w.m - 1 := by omega
    have tkb := tk_bd o j
    have d3 : s1[a]? = some (.lst [cl j]) := d2'
    have st : ∀ {t : Sto}, Gr s1 t → stands [(a, O.lst [cl j])] t = true := fun g => stands_of fun c hc => by
      simp only [List.mem_cons, List.not_mem_nil, or_false] at hc
      subst hc
      exact g.at d3
    have c1 := f_takes o hk1 hj
    have c2 := f_open o hk1 hj (p := (p - tk w j) % w.R) (t := p - tk w j) rfl
    unfold wy at c1 c2
    have fX : ∀ (b : Bool) (es : List D), opn w j (p - tk w j) = b → es = (if b = true then [row j ((p - tk w j) % w.R) (N + tk w j)] else []) → ∃ t, Gr s t ∧ t[a]? = some (.lst [cl j]) ∧ t[s.length]? = some (.lst ([row (j + 1) ((p - 1) % w.R) (N + 1)] ++ es)) ∧
        fEx (fM "list" extD (fvar 11) (fAc (fIf (fTb (fCall F_is_open (fAc (fvar 3) (fAc (fTup (fAc (fvar 12) (fAc (fvar 9) fA0))) (fAc (fvar 16) fA0))))) (fLst (fAc (fTup (fAc (fTup (fAc (fvar 12) (fAc (fvar 16) fA0))) (fAc (fE2 addD (fvar 8) (fvar 15)) fA0))) fA0)) (fLst fA0)) fA0))
          (lvL w G k q f l N (some (cl (j + 1))) (some (.int p)) (some (.ref s.length)) (some (cl j)) x13 x14 (some (.int (tk w j))) (some (.int ((p - tk w j) % w.R))) x17) s1 = some (.nx, lvL w G k q f l N (some (cl (j + 1))) (some (.int p)) (some (.ref s.length)) (some (cl j)) x13 x14 (some (.int (tk w j))) (some (.int ((p - tk w j) % w.R))) x17, t) := by
      intro b es hb he
      rw [hb] at c2
      have e1 : fIf (fTb (fCall F_is_open (fAc (fvar 3) (fAc (fTup (fAc (fvar 12) (fAc (fvar 9) fA0))) (fAc (fvar 16) fA0))))) (fLst (fAc (fTup (fAc (fTup (fAc (fvar 12) (fAc (fvar 16) fA0))) (fAc (fE2 addD (fvar 8) (fvar 15)) fA0))) fA0)) (fLst fA0)
          (lvL w G k q f l N (some (cl (j + 1))) (some (.int p)) (some (.ref s.length)) (some (cl j)) x13 x14 (some (.int (tk w j))) (some (.int ((p - tk w j) % w.R))) x17) s1 = some (.ref s1.length, s1 ++ [.lst es]) := by
        rw [he]
        cases b <;> simp -implicitDefEqProofs [lvL, c2, sz2, sz1, sz, row, kt]
      have b2 : (s1 ++ [O.lst es])[s.length]? = some (.lst [row (j + 1) ((p - 1) % w.R) (N + 1)]) := (Gr.app s1 _).at b1
      have hes : es.length ≤ 1 := by
        rw [he]
        split <;> simp
      have e2 := i_Ext (fr := fvar 11) (L := lvL w G k q f l N (some (cl (j + 1))) (some (.int p)) (some (.ref s.length)) (some (cl j)) x13 x14 (some (.int (tk w j))) (some (.int ((p - tk w j) % w.R))) x17) (es := es) rfl e1 b1 b2 (by simp) (sz _ (by simp only [List.length_cons, List.length_nil]; omega))
      have hla : a ≠ s.length := fun e => by
        have := (List.getElem?_eq_some_iff.mp d2).1
        omega
      refine ⟨_, (g1.trans (Gr.app _ _)).set (Nat.le_refl _) _, ?_, ?_, e2⟩
      · rw [List.getElem?_set_ne (fun e => hla e.symm)]
        exact (Gr.app s1 _).at d3
      · rw [List.getElem?_set_self (List.getElem?_eq_some_iff.mp b2).1]
    obtain ⟨t, gt, ta, tb, tx⟩ := fX _ _ rfl rfl
    refine ⟨t, some (cl j), some (.int (tk w j)), some (.int ((p - tk w j) % w.R)), fin ?_, gt, by rw [tb]; rfl⟩
    have st2 : stands [(a, O.lst [cl j])] t = true := stands_of fun c hc => by
      simp only [List.mem_cons, List.not_mem_nil, or_false] at hc
      subst hc
      exact ta
    unfold fRowB fFor
    rw [eI]
    have e3 : (fSq (fAs (fCall F_takes_of (fAc (fvar 3) (fAc (fTup (fAc (fvar 12) (fAc (fvar 9) fA0))) fA0))) (fNm 15))
        (fSq (fAs (fE2 modD (fE2 subD (fvar 10) (fvar 15)) (fvar 4)) (fNm 16))
        (fEx (fM "list" extD (fvar 11) (fAc (fIf (fTb (fCall F_is_open (fAc (fvar 3) (fAc (fTup (fAc (fvar 12) (fAc (fvar 9) fA0))) (fAc (fvar 16) fA0))))) (fLst (fAc (fTup (fAc (fTup (fAc (fvar 12) (fAc (fvar 16) fA0))) (fAc (fE2 addD (fvar 8) (fvar 15)) fA0))) fA0)) (fLst fA0)) fA0)))))
        (lvL w G k q f l N (some (cl (j + 1))) (some (.int p)) (some (.ref s.length)) (some (cl j)) x13 x14 x15 x16 x17) s1 = some (.nx, lvL w G k q f l N (some (cl (j + 1))) (some (.int p)) (some (.ref s.length)) (some (cl j)) x13 x14 (some (.int (tk w j))) (some (.int ((p - tk w j) % w.R))) x17, t) := by
      have e4 : fAs (fCall F_takes_of (fAc (fvar 3) (fAc (fTup (fAc (fvar 12) (fAc (fvar 9) fA0))) fA0))) (fNm 15) (lvL w G k q f l N (some (cl (j + 1))) (some (.int p)) (some (.ref s.length)) (some (cl j)) x13 x14 x15 x16 x17) s1 = some (.nx, lvL w G k q f l N (some (cl (j + 1))) (some (.int p)) (some (.ref s.length)) (some (cl j)) x13 x14 (some (.int (tk w j))) x16 x17, s1) := by
        simp -implicitDefEqProofs [lvL, c1, sz2]
      have e5 : fAs (fE2 modD (fE2 subD (fvar 10) (fvar 15)) (fvar 4)) (fNm 16) (lvL w G k q f l N (some (cl (j + 1))) (some (.int p)) (some (.ref s.length)) (some (cl j)) x13 x14 (some (.int (tk w j))) x16 x17) s1 = some (.nx, lvL w G k q f l N (some (cl (j + 1))) (some (.int p)) (some (.ref s.length)) (some (cl j)) x13 x14 (some (.int (tk w j))) (some (.int ((p - tk w j) % w.R))) x17, s1) := by
        simp -implicitDefEqProofs [lvL, o_mod hR]
      unfold fSq
      rw [e4]
      simp only [Option.bind_some]
      rw [e5]
      exact tx
    have e6 : fNm 12 (cl j) (lvL w G k q f l N (some (cl (j + 1))) (some (.int p)) (some (.ref s.length)) x12 x13 x14 x15 x16 x17) s1 = some (lvL w G k q f l N (some (cl (j + 1))) (some (.int p)) (some (.ref s.length)) (some (cl j)) x13 x14 x15 x16 x17, s1) := rfl
    simp only [Option.bind_some, Nat.zero_lt_succ, if_true, Nat.add_sub_cancel]
    rw [fLoop, if_pos (st (Gr.refl _)), e6]
    simp only [Option.bind_some, e3]
    rw [fLoop, if_pos st2]
end FL

set_option Elab.async false
set_option linter.all false
set_option maxRecDepth 100000
set_option autoImplicit false
namespace FL
open PySem PySem.Spec PyProof.Rows L2
def fRowC : FS := fFor (fSeqI (fvar 11)) (fGt 2 (fGc (fNm 13) (fGc (fNm 14) fG0))) fRelax
def fItem : FS := fIfS (fTb (fE2 eqD (fE2 ixD (fvar 6) (fTup (fAc (fvar 9) (fAc (fvar 10) fA0)))) (fvar 8))) (fSq fRowA (fSq fRowB fRowC)) fNx
def rowsOf (w : Wd) (i : Nat) (p N : Int) : List D := row i ((p - 1) % w.R) (N + 1) :: wrow w i p N
def Low (fo fo' : List (List Key × D)) : Prop := ∀ k v, valD fo k = some (.int v) → ∃ v', valD fo' k = some (.int v') ∧ v' ≤ v
theorem Low.refl (fo : List (List Key × D)) : Low fo fo := fun _ v h => ⟨v, h, Int.le_refl _⟩
theorem Low.trans {a b c : List (List Key × D)} (h : Low a b) (h' : Low b c) : Low a c := fun k v e => by
  obtain ⟨v1, e1, l1⟩ := h k v e
  obtain ⟨v2, e2, l2⟩ := h' k v1 e1
  exact ⟨v2, e2, by omega⟩
def Hit (fo : List (List Key × D)) (d : D) : Prop := ∃ j q m v, d = row j q m ∧ valD fo (kq j q) = some (.int v) ∧ v ≤ m
theorem Hit.low {fo fo' : List (List Key × D)} (l : Low fo fo') {d : D} (h : Hit fo d) : Hit fo' d := by
  obtain ⟨j, q, m, v, e, e1, e2⟩ := h
  obtain ⟨v', e3, e4⟩ := l _ _ e1
  exact ⟨j, q, m, v', e, e3, by omega⟩
theorem Hit.at' {fo : List (List Key × D)} {j : Nat} {q m : Int} (h : Hit fo (row j q m)) : ∃ v, valD fo (kq j q) = some (.int v) ∧ v ≤ m := by
  obtain ⟨j', q', m', v, e, e1, e2⟩ := h
  unfold row kt cl at e
  injection e with e
  injection e with e e3
  injection e with e
  injection e with e4 e5
  injection e4 with e4
  injection e5 with e5 _
  injection e5 with e5
  injection e3 with e3 _
  injection e3 with e3
  refine ⟨v, ?_, by omega⟩
  unfold kq at *
  rw [show nm j = nm j' from e4, show q = q' from e5]
  exact e1
structure RowG (w : Wd) (G : Nat) (N : Int) (d : D) : Prop where
  ex : ∃ j q m, d = row j q m ∧ Vd w G j q ∧ lev w G j q ≤ m ∧ N < m ∧ 0 ≤ m ∧ m ≤ 130
theorem wrow_succ (w : Wd) (j : Nat) (p N : Int) : wrow w (j + 1) p N = if opn w j (p - tk w j) = true then [row j ((p - tk w j) % w.R) (N + tk w j)] else [] := rfl
theorem rows_good {w : Wd} (o : w.Ok) {G : Nat} (hG : G < 6) {i : Nat} {p N : Int} (hv : Vd w G i p) (hN : lev w G i p = N) : ∀ d ∈ rowsOf w i p N, RowG w G N d := by
  have r1 := o.r1
  have hb := lev_bd o G i p
  have hi := hv.i
  have hgi : ((G - i : Nat) : Int) ≤ 5 := by omega
  intro d hd
  unfold rowsOf at hd
  rcases List.mem_cons.mp hd with rfl | hd
  · refine ⟨i, (p - 1) % w.R, N + 1, rfl, ⟨hi, Int.emod_nonneg _ (by omega), Int.emod_lt_of_pos _ (by omega)⟩, ?_, by omega, by omega, by omega⟩
    have := lev_le o G i (p - 1)
    rw [lev_mod o]
    have e : p - 1 + 1 = p := by omega
    rw [e] at this
    omega
  · rcases i with _ | j
    · simp [wrow] at hd
    · rw [wrow_succ] at hd
      by_cases hop : opn w j (p - tk w j) = true
      · rw [if_pos hop] at hd
        simp only [List.mem_cons, List.not_mem_nil, or_false] at hd
        subst hd
        have tb := tk_bd o j
        refine ⟨j, (p - tk w j) % w.R, N + tk w j, rfl, ⟨by omega, Int.emod_nonneg _ (by omega), Int.emod_lt_of_pos _ (by omega)⟩, ?_, by omega, by omega, by omega⟩
        rw [lev_mod o, lev_open o (by omega) hop]
        have e : p - tk w j + tk w j = p := by omega
        rw [e]
        omega
      · rw [if_neg hop] at hd
        cases hd
theorem row_kt {j : Nat} {q m : Int} {k : Nat × Int} (h : row j q m = kt k) : False := by
  unfold row kt cl at h
  injection h with h
  injection h with h _
  cases h
section
variable {w : Wd} {G k q f l : Nat} {N : Int} {base : Sto}
theorem rowsC_ok (o : w.Ok) (hG : G < 6) {rows its : List D} (hne : rows ≠ []) (hg : ∀ d ∈ rows, RowG w G N d) {s : Sto} {fo : List (List Key × D)} {lo : List (Key × D)} (h : Lv w G N base s f l fo lo) {r0 rN : Nat} (h0 : s[r0]? = some (.lst rows))
    (hN : valD lo (.inl N) = some (.ref rN)) (hi : s[rN]? = some (.lst its)) (x9 x10 x12 x13 x14 x15 x16 x17 : Option D) :
    ∃ t fo' lo' y13 y14, fRowC (lvL w G k q f l N x9 x10 (some (.ref r0)) x12 x13 x14 x15 x16 x17) s = some (.nx, lvL w G k q f l N x9 x10 (some (.ref r0)) x12 y13 y14 x15 x16 x17, t) ∧ Lv w G N base t f l fo' lo' ∧ Low fo fo' ∧
      valD lo' (.inl N) = some (.ref rN) ∧ t[rN]? = some (.lst its) ∧ ∀ d ∈ rows, Hit fo' d := by
  obtain ⟨L', t, e, fo', lo', y13, y14, rfl, a1, a2, a3, a4, a5, a6⟩ := for_inv (fi := fSeqI (fvar 11)) (fg := fGt 2 (fGc (fNm 13) (fGc (fNm 14) fG0))) (fb := fRelax) (items := rows) (c := [(r0, .lst rows)]) (L := lvL w G k q f l N x9 x10 (some (.ref r0)) x12 x13 x14 x15 x16 x17) (s := s) (s0 := s)
    (by simp -implicitDefEqProofs [fSeqI, lvL, seqI, h0])
    (fun i L t => ∃ fo' lo' y13 y14, L = lvL w G k q f l N x9 x10 (some (.ref r0)) x12 y13 y14 x15 x16 x17 ∧ Lv w G N base t f l fo' lo' ∧ Low fo fo' ∧ valD lo' (.inl N) = some (.ref rN) ∧ t[rN]? = some (.lst its) ∧ t[r0]? = some (.lst rows) ∧ ∀ j d, j < i → rows[j]? = some d → Hit fo' d)
    (fun i L t ⟨_, _, _, _, _, _, _, _, _, h0', _⟩ => stands_of fun c hc => by
      simp only [List.mem_cons, List.not_mem_nil, or_false] at hc
      subst hc
      exact h0')
    (by
      intro i d L t hd ⟨fo1, lo1, z13, z14, hL, b1, b2, b3, b4, b5, b6⟩
      subst hL
      obtain ⟨j, p, m, rfl, c1, c2, c3, c4, c5⟩ := (hg d (List.mem_of_getElem? hd)).ex
      obtain ⟨u, fo2, lo2, d1, d2, ⟨v, d3, d3'⟩, d4, d5, d6, d7⟩ := Lv.relax o b1 hG c1 c2 c3 c4 c5 (L := lvL w G k q f l N x9 x10 (some (.ref r0)) x12 (some (kt (j, p))) (some (.int m)) x15 x16 x17) rfl rfl rfl rfl
      have hlot : ∀ (n : Int) r, valD lo1 (.inl n) = some (.ref r) → r0 ≠ r := by
        intro n r e er
        subst er
        obtain ⟨r', ds, e2, _, _, _, _, _, e3, _⟩ := b1.lot e
        injection e2 with e2
        subst e2
        rw [b5] at e3
        injection e3 with e3
        injection e3 with e3
        rcases rows with _ | ⟨d0, rows⟩
        · exact hne rfl
        · rcases ds with _ | ⟨k0, ds⟩
          · cases e3
          · rw [List.map_cons] at e3
            injection e3 with e3 _
            obtain ⟨_, _, _, q1, _⟩ := (hg d0 (List.mem_cons_self ..)).ex
            exact row_kt (q1.symm.trans e3)
      have hr0f : r0 ≠ f := fun e => by
        have := b1.sf
        rw [← e, b5] at this
        cases this
      have hr0l : r0 ≠ l := fun e => by
        have := b1.sl
        rw [← e, b5] at this
        cases this
      have hrNf : rN ≠ f := fun e => by
        have := b1.sf
        rw [← e, b4] at this
        cases this
      have hrNl : rN ≠ l := fun e => by
        have := b1.sl
        rw [← e, b4] at this
        cases this
      refine ⟨_, t, _, u, rfl, d1, fo2, lo2, _, _, rfl, d2, b2.trans d4, ?_, ?_, ?_, ?_⟩
      · rw [d7 N (by omega)]
        exact b3
      · rw [d5 rN (List.getElem?_eq_some_iff.mp b4).1 hrNf hrNl fun r e er => ?_, b4]
        subst er
        have := b1.ap _ _ _ b3 e
        omega
      · rw [d5 r0 (List.getElem?_eq_some_iff.mp b5).1 hr0f hr0l fun r e => hlot m r e, b5]
      · intro j' d' hj' hd'
        by_cases e : j' = i
        · subst e
          rw [hd] at hd'
          cases hd'
          exact ⟨j, p, m, v, rfl, d3, d3'⟩
        · exact (b6 j' d' (by omega) hd').low d4)
    ⟨fo, lo, x13, x14, rfl, h, Low.refl _, hN, hi, h0, fun j d hj => by omega⟩
  refine ⟨t, fo', lo', y13, y14, e, a1, a2, a3, a4, fun d hd => ?_⟩
  obtain ⟨j, hj⟩ := List.mem_iff_getElem?.mp hd
  exact a6 j d (List.getElem?_eq_some_iff.mp hj).1 hj
theorem Nbinto.grow {m k : Nat} {s t : Sto} (h : Nbinto m k s) (hk : k < s.length) (g : Gr s t) : Nbinto m k t := by
  have e : t[k]? = s[k]? := by
    obtain ⟨r, rfl⟩ := g
    rw [List.getElem?_append_left hk]
  refine ⟨fun ds => by rw [e]; exact h.nl ds, fun j hj => ?_⟩
  obtain ⟨a, a1, a2⟩ := h.at' j hj
  refine ⟨a, ?_, g.at a2⟩
  unfold dget at *
  rw [e]
  exact a1
theorem Kn.grow {w : Wd} {k : Nat} {s t : Sto} (h : Kn w k s) (hk : k < s.length) (g : Gr s t) : Kn w k t := by
  have e : t[k]? = s[k]? := by
    obtain ⟨r, rfl⟩ := g
    rw [List.getElem?_append_left hk]
  unfold Kn at *
  rw [e]
  exact h
theorem slv_lt (o : w.Ok) {i : Nat} (hi : i < G) (p : Int) : slv w G i p < lev w G i p := by
  unfold slv
  by_cases hop : opn w i p = true
  · rw [if_pos hop, lev_open o hi (t := p) hop]
    have := tk_bd o i
    omega
  · rw [if_neg hop, lev_wait o hi (t := p) (by simpa using hop)]
    omega
/-- what stands below -/
structure Cx (w : Wd) (G k q : Nat) (base : Sto) : Prop where
  o : w.Ok
  g : G < w.m
  kl : k < base.length
  ql : q < base.length
  kn : Kn w k base
  nb : Nbinto w.m q base
theorem Cx.g6 (c : Cx w G k q base) : G < 6 := by have := c.o.m6; have := c.g; omega
theorem item_ok (c : Cx w G k q base) {s : Sto} {fo : List (List Key × D)} {lo : List (Key × D)} (h : Lv w G N base s f l fo lo) {rN i : Nat} {p : Int} {its : List D} (hN : valD lo (.inl N) = some (.ref rN)) (hi : s[rN]? = some (.lst its)) (hv : Vd w G i p)
    {v0 : Int} (hf : valD fo (kq i p) = some (.int v0)) (h0 : v0 ≤ N) (x11 x12 x13 x14 x15 x16 x17 : Option D) :
    ∃ t fo' lo' y11 y12 y13 y14 y15 y16, fItem (lvL w G k q f l N (some (cl i)) (some (.int p)) x11 x12 x13 x14 x15 x16 x17) s = some (.nx, lvL w G k q f l N (some (cl i)) (some (.int p)) y11 y12 y13 y14 y15 y16 x17, t) ∧ Lv w G N base t f l fo' lo' ∧ Low fo fo' ∧
      valD lo' (.inl N) = some (.ref rN) ∧ t[rN]? = some (.lst its) ∧ (lev w G i p = N → ∀ d ∈ rowsOf w i p N, Hit fo' d) := by
  have hix : ixD (.ref f) (kt (i, p)) s = some (.int v0, s) := ix_ref (nl_T h.sf) (by rw [get_T h.sf, hf])
  obtain ⟨_, e1, hlv⟩ := h.fnd c.g6 hv hf
  injection e1 with e1
  subst e1
  have test : fTb (fE2 eqD (fE2 ixD (fvar 6) (fTup (fAc (fvar 9) (fAc (fvar 10) fA0)))) (fvar 8)) (lvL w G k q f l N (some (cl i)) (some (.int p)) x11 x12 x13 x14 x15 x16 x17) s = some (decide (v0 = N), s) := by
    unfold kt at hix
    simp -implicitDefEqProofs [lvL, sz2, hix]
  by_cases e : v0 = N
  · rw [decide_eq_true e] at test
    subst e
    have hlN : lev w G i p = v0 := by
      have hle : slv w G i p < lev w G i p ∨ i = G := by
        by_cases hiG : i = G
        · exact .inr hiG
        · exact .inl (slv_lt c.o (by have := hv.i; omega) p)
      rcases hle with hle | hle
      · have := h.st i p hv (.inr (by omega))
        rw [hf] at this
        injection this with this
        injection this with this
        exact this.symm
      · have := h.st i p hv (.inl hle)
        rw [hf] at this
        injection this with this
        injection this with this
        exact this.symm
    have him : i < w.m := by have := hv.i; have := c.g; omega
    have hbl := h.gr.len
    obtain ⟨t1, y12, y15, y16, r1, r2, r3⟩ := rows_ok (k := k) (q := q) (f := f) (l := l) (N := v0) (p := p) c.o him (c.kn.grow c.kl h.gr) (by have := c.kl; omega) (c.nb.grow c.ql h.gr) (by have := c.ql; omega) x11 x12 x13 x14 x15 x16 x17 (G := G)
    obtain ⟨t, fo', lo', y13, y14, q1, q2, q3, q4, q5, q6⟩ := rowsC_ok (k := k) (q := q) c.o c.g6 (rows := rowsOf w i p v0) (its := its) (by unfold rowsOf; simp) (rows_good c.o c.g6 hv hlN) (h.grow r2) (r0 := s.length) r3 hN (r2.at hi) (some (cl i)) (some (.int p)) y12 x13 x14 y15 y16 x17
    refine ⟨t, fo', lo', some (.ref s.length), y12, y13, y14, y15, y16, ?_, q2, q3, q4, q5, fun _ => q6⟩
    unfold fItem fIfS
    rw [test]
    simp only [Option.bind_some, if_true]
    have assoc : fSq fRowA (fSq fRowB fRowC) (lvL w G k q f l v0 (some (cl i)) (some (.int p)) x11 x12 x13 x14 x15 x16 x17) s = fSq (fSq fRowA fRowB) fRowC (lvL w G k q f l v0 (some (cl i)) (some (.int p)) x11 x12 x13 x14 x15 x16 x17) s := by
      unfold fSq
      cases fRowA (lvL w G k q f l v0 (some (cl i)) (some (.int p)) x11 x12 x13 x14 x15 x16 x17) s with
      | none => rfl
      | some z =>
        obtain ⟨fl, L9, s9⟩ := z
        cases fl <;> rfl
    rw [assoc]
    unfold fSq at r1 ⊢
    rw [r1]
    exact q1
  · rw [decide_eq_false e] at test
    refine ⟨s, fo, lo, x11, x12, x13, x14, x15, x16, ?_, h, Low.refl _, hN, hi, fun e' => absurd ?_ e⟩
    · unfold fItem fIfS
      rw [test]
      rfl
    · omega
end
end FL

set_option Elab.async false
set_option linter.all false
set_option maxRecDepth 100000
set_option autoImplicit false
namespace FL
open PySem PySem.Spec PyProof.Rows L2
def fForI : FS := fFor (fSeqI (fGet2 (fvar 7) (fvar 8) (fLst fA0))) (fGt 2 (fGc (fNm 9) (fGc (fNm 10) fG0))) fItem
theorem opn_congr {w : Wd} {i : Nat} {a b : Int} (h : a % (w.R : Int) = b % (w.R : Int)) : opn w i a = opn w i b := by
  unfold opn
  rw [h]
theorem mod_back {R p t : Int} (hR : 0 < R) (h0 : 0 ≤ p) (h1 : p < R) : ((p + t) % R - t) % R = p := by
  rw [Int.sub_eq_add_neg, Int.emod_add_emod]
  have e : p + t + -t = p := by omega
  rw [e]
  exact Int.emod_eq_of_lt h0 h1
section
variable {w : Wd} {G k q f l : Nat} {N : Int} {base : Sto}
theorem slv_nn (o : w.Ok) (i : Nat) (p : Int) : 0 ≤ slv w G i p := by
  unfold slv
  split
  · exact lev_nn o _ _ _
  · exact lev_nn o _ _ _
/-- the successor -/
theorem succ_of (o : w.Ok) {i : Nat} {p : Int} (hv : Vd w G i p) (hi : i < G) : ∃ i' p', Vd w G i' p' ∧ lev w G i' p' = slv w G i p ∧ row i p (lev w G i p) ∈ rowsOf w i' p' (slv w G i p) := by
  have r1 := o.r1
  have hR : (0 : Int) < w.R := by omega
  by_cases hop : opn w i p = true
  · refine ⟨i + 1, (p + tk w i) % w.R, ⟨by omega, Int.emod_nonneg _ (by omega), Int.emod_lt_of_pos _ hR⟩, ?_, ?_⟩
    · unfold slv
      rw [if_pos hop, lev_mod o]
    · unfold rowsOf wrow slv
      rw [if_pos hop]
      refine List.mem_cons_of_mem _ ?_
      simp only
      have e := mod_back (t := tk w i) hR hv.lo hv.hi
      rw [if_pos (by
        rw [opn_congr (b := p) (by rw [e, Int.emod_eq_of_lt hv.lo hv.hi])]
        exact hop), e, lev_open o hi (t := p) hop, Int.add_comm (tk w i)]
      exact List.mem_cons_self ..
  · refine ⟨i, (p + 1) % w.R, ⟨by omega, Int.emod_nonneg _ (by omega), Int.emod_lt_of_pos _ hR⟩, ?_, ?_⟩
    · unfold slv
      rw [if_neg hop, lev_mod o]
    · unfold rowsOf slv
      rw [if_neg hop, mod_back hR hv.lo hv.hi, lev_wait o hi (t := p) (by simpa using hop), Int.add_comm 1]
      exact List.mem_cons_self ..
theorem next (c : Cx w G k q base) {s : Sto} {fo : List (List Key × D)} {lo : List (Key × D)} (h : Lv w G N base s f l fo lo)
    (hh : ∀ (r : Nat) (ds : List (Nat × Int)), valD lo (.inl N) = some (.ref r) → s[r]? = some (.lst (ds.map kt)) → ∀ z ∈ ds, Vd w G z.1 z.2 → lev w G z.1 z.2 = N → ∀ d ∈ rowsOf w z.1 z.2 N, Hit fo d) : Lv w G (N + 1) base s f l fo lo := by
  refine ⟨h.gr, h.hf, h.hl, h.fl, h.sf, h.sl, h.nf, h.nl, h.vf, h.vl, h.ap, fun i p v hv e hN => h.i3 i p v hv e (by omega), fun i p hv hs => ?_⟩
  by_cases h1 : i = G ∨ slv w G i p < N
  · exact h.st i p hv h1
  · have hiG : i < G := by
      have := hv.i
      rcases Nat.lt_or_ge i G with q | q
      · exact q
      · exact absurd (.inl (by omega)) h1
    have hsN : slv w G i p = N := by
      rcases hs with hs | hs
      · exact absurd (.inl hs) h1
      · have : ¬ slv w G i p < N := fun q => h1 (.inr q)
        omega
    obtain ⟨i', p', hv', hl', hr⟩ := succ_of c.o hv hiG
    rw [hsN] at hl' hr
    have e1 : valD fo (kq i' p') = some (.int N) := by
      rw [← hl']
      refine h.st i' p' hv' ?_
      by_cases e : i' = G
      · exact .inl e
      · right
        have := slv_lt (G := G) c.o (i := i') (by have := hv'.i; omega) p'
        omega
    obtain ⟨r, ds, a1, a2, a3⟩ := h.i3 i' p' N hv' e1 (Int.le_refl _)
    obtain ⟨v, b1, b2⟩ := (hh r ds a1 a2 _ a3 hv' hl' _ hr).at'
    obtain ⟨v', b3, b4⟩ := h.fnd c.g6 hv b1
    injection b3 with b3
    rw [b1]
    congr 2
    omega
theorem forI_ok (c : Cx w G k q base) {s : Sto} {fo : List (List Key × D)} {lo : List (Key × D)} (h : Lv w G N base s f l fo lo) (x9 x10 x11 x12 x13 x14 x15 x16 x17 : Option D) :
    ∃ t fo' lo' y9 y10 y11 y12 y13 y14 y15 y16, fForI (lvL w G k q f l N x9 x10 x11 x12 x13 x14 x15 x16 x17) s = some (.nx, lvL w G k q f l N y9 y10 y11 y12 y13 y14 y15 y16 x17, t) ∧ Lv w G (N + 1) base t f l fo' lo' := by
  have ll := (List.getElem?_eq_some_iff.mp h.sl).1
  have g : Gr s (s ++ [O.lst []]) := Gr.app _ _
  have isd : isDictR s (.ref l) = true := by
    unfold isDictR
    simp only [h.sl]
    rfl
  have dg : ∀ {t : Sto}, t[l]? = some (.dK lo) → dget t l (.int N) = some (valD lo (.inl N)) := fun e => by
    unfold dget
    rw [e]
    rfl
  have e1 := i_Get2 (fd := fvar 7) (fk := fvar 8) (fx := fLst fA0) (L := lvL w G k q f l N x9 x10 x11 x12 x13 x14 x15 x16 x17) (s := s) (s1 := s) (s2 := s) (s3 := s ++ [.lst []]) (n := l) (y := .int N) (x := .ref s.length) rfl isd rfl (by simp -implicitDefEqProofs [sz]) (dg (g.at h.sl))
  rcases hlo : valD lo (.inl N) with _ | d
  · rw [hlo] at e1
    refine ⟨s ++ [.lst []], fo, lo, x9, x10, x11, x12, x13, x14, x15, x16, ?_, next c (h.grow g) fun r ds e => by rw [hlo] at e; cases e⟩
    have e2 : seqI (s ++ [O.lst []]) (.ref s.length) = some ⟨[], [(s.length, .lst [])]⟩ := by
      unfold seqI
      simp
    have st : stands [(s.length, O.lst [])] (s ++ [O.lst []]) = true := stands_of fun c hc => by
      simp only [List.mem_cons, List.not_mem_nil, or_false] at hc
      subst hc
      simp
    unfold fForI fFor fSeqI
    rw [e1]
    simp only [Option.getD_none, Option.bind_some, e2, Option.map_some, fLoop, st, if_true]
  · obtain ⟨rN, ds, rfl, b1, b2, b3, b4, b5, b6, b7, b8⟩ := h.lot hlo
    rw [hlo] at e1
    have b6' := g.at b6
    have e2 : seqI (s ++ [O.lst []]) (.ref rN) = some ⟨ds.map kt, [(rN, .lst (ds.map kt))]⟩ := by
      unfold seqI
      simp only [b6']
    have eI : fSeqI (fGet2 (fvar 7) (fvar 8) (fLst fA0)) (lvL w G k q f l N x9 x10 x11 x12 x13 x14 x15 x16 x17) s = some (⟨ds.map kt, [(rN, .lst (ds.map kt))]⟩, s ++ [.lst []]) := by
      unfold fSeqI
      rw [e1]
      simp only [Option.getD_some, Option.bind_some, e2, Option.map_some]
    obtain ⟨L', t, e, fo', lo', y9, y10, y11, y12, y13, y14, y15, y16, rfl, a1, a2, a3, a4, a5⟩ := for_inv (fg := fGt 2 (fGc (fNm 9) (fGc (fNm 10) fG0))) (fb := fItem) eI
      (fun x L t => ∃ fo' lo' y9 y10 y11 y12 y13 y14 y15 y16, L = lvL w G k q f l N y9 y10 y11 y12 y13 y14 y15 y16 x17 ∧ Lv w G N base t f l fo' lo' ∧ Low fo fo' ∧ valD lo' (.inl N) = some (.ref rN) ∧ t[rN]? = some (.lst (ds.map kt)) ∧
        ∀ j z, j < x → ds[j]? = some z → lev w G z.1 z.2 = N → ∀ d ∈ rowsOf w z.1 z.2 N, Hit fo' d)
      (fun x L t ⟨_, _, _, _, _, _, _, _, _, _, _, _, _, _, h0', _⟩ => stands_of fun c hc => by
        simp only [List.mem_cons, List.not_mem_nil, or_false] at hc
        subst hc
        exact h0')
      (by
        intro x d L t hd ⟨fo1, lo1, y9, y10, y11, y12, y13, y14, y15, y16, hL, c1, c2, c3, c4, c5⟩
        subst hL
        rw [List.getElem?_map] at hd
        obtain ⟨z, hz, rfl⟩ := Option.map_eq_some_iff.mp hd
        obtain ⟨hv, v, hf, hvN⟩ := b8 z (List.mem_of_getElem? hz)
        obtain ⟨v', hf', hv'⟩ := c2 _ _ hf
        obtain ⟨u, fo2, lo2, z11, z12, z13, z14, z15, z16, d1, d2, d3, d4, d5, d6⟩ := item_ok c c1 c3 c4 hv hf' (by omega) y11 y12 y13 y14 y15 y16 x17
        refine ⟨_, t, _, u, rfl, d1, fo2, lo2, _, _, _, _, _, _, _, _, rfl, d2, c2.trans d3, d4, d5, fun j z' hj hz' hl d hd => ?_⟩
        by_cases ej : j = x
        · subst ej
          rw [hz] at hz'
          cases hz'
          exact d6 hl d hd
        · exact (c5 j z' (by omega) hz' hl d hd).low d3)
      ⟨fo, lo, x9, x10, x11, x12, x13, x14, x15, x16, rfl, h.grow g, Low.refl _, hlo, b6', fun j z hj => by omega⟩
    refine ⟨t, fo', lo', _, _, _, _, _, _, _, _, e, next c a1 fun r ds' er hr z hz hvz hl d hd => ?_⟩
    rw [a3] at er
    injection er with er
    injection er with er
    subst er
    rw [a4] at hr
    injection hr with hr
    injection hr with hr
    have hz1 : kt z ∈ ds.map kt := by
      rw [hr]
      exact List.mem_map.mpr ⟨z, hz, rfl⟩
    obtain ⟨y, hy, ey⟩ := List.mem_map.mp hz1
    obtain ⟨j, hj⟩ := List.mem_iff_getElem?.mp hy
    have eyz : kq y.1 y.2 = kq z.1 z.2 := by
      unfold kt cl at ey
      injection ey with ey
      injection ey with e4 e5
      injection e4 with e4
      injection e5 with e5 _
      injection e5 with e5
      unfold kq
      rw [e4, e5]
    have hvy := (b8 y hy).1
    have g6 := c.g6
    obtain ⟨q1, q2⟩ := kq_inj (by have := hvy.i; omega) (by have := hvz.i; omega) eyz
    have eyz' : y = z := Prod.ext q1 q2
    subst eyz'
    exact a5 j y (by rw [List.length_map]; exact (List.getElem?_eq_some_iff.mp hj).1) hj hl d hd
end
end FL

set_option Elab.async false
set_option linter.all false
set_option maxRecDepth 100000
set_option autoImplicit false
namespace FL
open PySem PySem.Spec PyProof.Rows L2
def fTest : FT := fOr (fTb (fE2 inD (fvar 8) (fvar 7))) (fTb (fCB anyD (fAc (fLkE 7 (fLc (fSeqI (fvar 7)) (fNm 17) fYes (fE2 gtD (fvar 17) (fvar 8)) [17])) fA0)))
def fWhile : FS := fWh fTest (fSq fForI (fAs (fE2 addD (fvar 8) (fC (.int 1))) (fNm 8))) 100000
theorem unlock_gr {s t : Sto} {l : Nat} {o o' : O} (h : s[l]? = some o) (g : Gr (s.set l o') t) : Gr s (t.set l o) := by
  obtain ⟨r, rfl⟩ := g
  have hl := (List.getElem?_eq_some_iff.mp h).1
  rw [List.set_append_left _ _ (by simpa using hl), List.set_set]
  have e : s.set l o = s := by
    apply List.ext_getElem?
    intro i
    by_cases hi : l = i
    · subst hi
      rw [List.getElem?_set_self hl, h]
    · rw [List.getElem?_set_ne hi]
  rw [e]
  exact Gr.app _ _
section
variable {w : Wd} {G k q f l : Nat} {N : Int} {base : Sto}
def keyI (d : Key × D) : D := kD d.1
theorem test_ok {s : Sto} {fo : List (List Key × D)} {lo : List (Key × D)} (h : Lv w G N base s f l fo lo) (x9 x10 x11 x12 x13 x14 x15 x16 x17 : Option D) :
    ∃ b t, fTest (lvL w G k q f l N x9 x10 x11 x12 x13 x14 x15 x16 x17) s = some (b, t) ∧ Gr s t ∧ (b = true → N ≤ 130) ∧ (b = false → ∀ n d, valD lo (.inl n) = some d → n < N) := by
  have ll := (List.getElem?_eq_some_iff.mp h.sl).1
  have dg : dget s l (.int N) = some (valD lo (.inl N)) := by
    unfold dget
    rw [h.sl]
    rfl
  have hin : inD (.int N) (.ref l) s = some (.bl (valD lo (.inl N)).isSome, s) := by
    unfold inD inS
    simp only [h.sl, dg]
    rfl
  have e1 : fTb (fE2 inD (fvar 8) (fvar 7)) (lvL w G k q f l N x9 x10 x11 x12 x13 x14 x15 x16 x17) s = some ((valD lo (.inl N)).isSome, s) := by
    simp -implicitDefEqProofs [lvL, hin]
  rcases hlo : valD lo (.inl N) with _ | d
  · rw [hlo] at e1
    -- any later key
    have hk : ∀ kv ∈ lo, ∃ n : Int, kv.1 = .inl n ∧ n ≤ 130 := fun kv hkv => by
      obtain ⟨n, r, ds, rfl, _, h2, _⟩ := h.vl kv hkv
      exact ⟨n, rfl, h2⟩
    have hz := h.len_l
    obtain ⟨t, r1, r2, r3⟩ := lc_map (fi := fSeqI (fvar 7)) (fg := fNm 17) (fe := fE2 gtD (fvar 17) (fvar 8)) (vs := [17]) (L := lvL w G k q f l N x9 x10 x11 x12 x13 x14 x15 x16 x17) (s := s.set l (.lk (.dK lo))) (s0 := s.set l (.lk (.dK lo))) (items := lo.map keyI) (chk := [])
      (fun d => .bl (decide (N < d.toI))) (by
        have : (s.set l (O.lk (O.dK lo)))[l]? = some (.lk (.dK lo)) := List.getElem?_set_self ll
        simp -implicitDefEqProofs [fSeqI, lvL, seqI, this, keyI]) (by simp) (fun d hd => ⟨_, fun _ => rfl, fun s' g => ⟨s', by
        obtain ⟨kv, hkv, rfl⟩ := List.mem_map.mp hd
        obtain ⟨n, hn, _⟩ := hk kv hkv
        simp -implicitDefEqProofs [wipeL, lvL, keyI, hn, kD], Gr.refl _⟩⟩) (sz _ (by rw [List.length_map]; omega))
    have hsl : (s.set l (O.lk (O.dK lo))).length = s.length := by simp
    rw [hsl] at r1 r3
    have r4 : (t.set l (.dK lo))[s.length]? = some (.lst ((lo.map keyI).map fun d => .bl (decide (N < d.toI)))) := by
      rw [List.getElem?_set_ne (by omega)]
      exact r3
    have g := unlock_gr h.sl r2
    have r5 := any_eval r4
    have eL : fLkE 7 (fLc (fSeqI (fvar 7)) (fNm 17) fYes (fE2 gtD (fvar 17) (fvar 8)) [17]) (lvL w G k q f l N x9 x10 x11 x12 x13 x14 x15 x16 x17) s = some (.ref s.length, t.set l (.dK lo)) := by
      have e2 : lkAt 7 (lvL w G k q f l N x9 x10 x11 x12 x13 x14 x15 x16 x17) s = some (l, .dK lo) := by
        unfold lkAt lvL
        simp only [List.getElem?_cons_succ, List.getElem?_cons_zero, h.sl]
        rfl
      unfold fLkE
      rw [e2]
      simp only [Option.bind_some, r1]
    refine ⟨(lo.map keyI).any fun d => decide (N < d.toI), _, ?_, g, ?_, ?_⟩
    · unfold fTest
      rw [e_Or, e1]
      simp only [Option.bind_some, Option.isSome_none, Bool.false_eq_true, if_false]
      simp -implicitDefEqProofs [eL, r5]
    · intro hb
      rw [List.any_eq_true] at hb
      obtain ⟨d, hd, hb⟩ := hb
      obtain ⟨kv, hkv, rfl⟩ := List.mem_map.mp hd
      obtain ⟨n, hn, h130⟩ := hk kv hkv
      have := of_decide_eq_true hb
      rw [show (keyI kv).toI = n by unfold keyI; rw [hn]; rfl] at this
      omega
    · intro hb n d hd
      have hm := val_mem hd
      rw [List.any_eq_false] at hb
      have := hb (keyI (.inl n, d)) (List.mem_map.mpr ⟨_, hm, rfl⟩)
      have e9 : (keyI (.inl n, d)).toI = n := rfl
      rw [e9] at this
      simp only [decide_eq_true_eq] at this
      by_cases en : n = N
      · subst en
        rw [hlo] at hd
        cases hd
      · omega
  · rw [hlo] at e1
    refine ⟨true, s, ?_, Gr.refl _, fun _ => ?_, fun e => by cases e⟩
    · unfold fTest
      rw [e_Or, e1]
      rfl
    · obtain ⟨r, ds, _, _, h2, _⟩ := h.lot hlo
      exact h2
theorem while_ok (c : Cx w G k q base) {s : Sto} {fo : List (List Key × D)} {lo : List (Key × D)} (h : Lv w G 0 base s f l fo lo) (x9 x10 x11 x12 x13 x14 x15 x16 x17 : Option D) :
    ∃ t L' N' fo' lo', fWhile (lvL w G k q f l 0 x9 x10 x11 x12 x13 x14 x15 x16 x17) s = some (.nx, L', t) ∧ L'[6]? = some (some (.ref f)) ∧ Lv w G N' base t f l fo' lo' ∧ ∀ n d, valD lo' (.inl n) = some d → n < N' := by
  obtain ⟨L', t, e, N', fo', lo', hL, a1, a2⟩ := wh_inv (c := fTest) (b := fSq fForI (fAs (fE2 addD (fvar 8) (fC (.int 1))) (fNm 8)))
    (fun n L t => ∃ (N : Int) (fo : List (List Key × D)) (lo : List (Key × D)) (x9 x10 x11 x12 x13 x14 x15 x16 x17 : Option D), L = lvL w G k q f l N x9 x10 x11 x12 x13 x14 x15 x16 x17 ∧ Lv w G N base t f l fo lo ∧ n = (200 - N).toNat ∧ N ≤ 131)
    (fun L t => ∃ (N : Int) (fo : List (List Key × D)) (lo : List (Key × D)), L[6]? = some (some (.ref f)) ∧ Lv w G N base t f l fo lo ∧ ∀ n d, valD lo (.inl n) = some d → n < N)
    (by
      intro n L t ⟨N, fo, lo, x9, x10, x11, x12, x13, x14, x15, x16, x17, hL, h1, hn, hN⟩
      subst hL
      obtain ⟨b, t1, t2, t3, t4, t5⟩ := test_ok (k := k) (q := q) h1 x9 x10 x11 x12 x13 x14 x15 x16 x17
      cases b with
      | false => exact .inl ⟨t1, t2, N, fo, lo, rfl, h1.grow t3, t5 rfl⟩
      | true =>
        right
        obtain ⟨u, fo', lo', y9, y10, y11, y12, y13, y14, y15, y16, e1, e2⟩ := forI_ok c (h1.grow t3) x9 x10 x11 x12 x13 x14 x15 x16 x17
        have := t4 rfl
        refine ⟨t1, lvL w G k q f l (N + 1) y9 y10 y11 y12 y13 y14 y15 y16 x17, u, (200 - (N + 1)).toNat, t2, ?_, by omega, N + 1, fo', lo', _, _, _, _, _, _, _, _, _, rfl, e2, rfl, by omega⟩
        unfold fSq
        rw [e1]
        rfl)
    100000 200 _ _ (by omega) ⟨0, fo, lo, x9, x10, x11, x12, x13, x14, x15, x16, x17, rfl, h, rfl, by omega⟩
  exact ⟨t, L', N', fo', lo', e, hL, a1, a2⟩
end
/-- all levels are found -/
structure Fd (w : Wd) (G : Nat) (f : Nat) (fo : List (List Key × D)) (s : Sto) : Prop where
  sf : s[f]? = some (.dT fo)
  nf : (fo.map (·.1)).Nodup
  vf : ∀ kv ∈ fo, ∃ i p, kv = (kq i p, .int (lev w G i p)) ∧ Vd w G i p
  ex : ∀ i p, Vd w G i p → valD fo (kq i p) = some (.int (lev w G i p))
theorem Lv.all {w : Wd} {G k q f l : Nat} {N : Int} {base s : Sto} {fo : List (List Key × D)} {lo : List (Key × D)} (c : Cx w G k q base) (h : Lv w G N base s f l fo lo) (hN : ∀ n d, valD lo (.inl n) = some d → n < N) : Fd w G f fo s := by
  have key : ∀ (n : Nat) (i : Nat) (p : Int), Vd w G i p → (lev w G i p).toNat < n → valD fo (kq i p) = some (.int (lev w G i p)) := by
    intro n
    induction n with
    | zero => intro i p _ h; omega
    | succ n ih =>
      intro i p hv hl
      by_cases hi : i = G
      · exact h.st i p hv (.inl hi)
      · have hiG : i < G := by have := hv.i; omega
        obtain ⟨i', p', hv', hl', _⟩ := succ_of c.o hv hiG
        have h1 := slv_lt (G := G) c.o hiG p
        have h2 := slv_nn (G := G) c.o i p
        have e := ih i' p' hv' (by rw [hl']; omega)
        refine h.st i p hv (.inr ?_)
        rw [hl'] at e
        by_cases hlt : slv w G i p < N
        · exact hlt
        · obtain ⟨r, ds, e1, _⟩ := h.i3 i' p' _ hv' e (by omega)
          exact hN _ _ e1
  refine ⟨h.sf, h.nf, fun kv hkv => ?_, fun i p hv => key _ i p hv (Nat.lt_succ_self _)⟩
  obtain ⟨i, p, v, rfl, hv, _⟩ := h.vf kv hkv
  have e := key _ i p hv (Nat.lt_succ_self _)
  have e2 := mem_val h.nf hkv
  rw [e] at e2
  injection e2 with e2
  exact ⟨i, p, by rw [e2], hv⟩
end FL

set_option Elab.async false
set_option linter.all false
set_option maxRecDepth 100000
set_option autoImplicit false
namespace FL
open PySem PySem.Spec PyProof.Rows L2
theorem gc_ref {s t : Sto} {f : Nat} (h : s.length ≤ f) : gc s (.ref f) t = (.ref f, t) := by
  unfold gc
  rw [if_neg]
  simp [D.low]
  omega
theorem sq_nx {f g : FS} {L L' : Loc} {s s' : Sto} {r : Option (Fl × Loc × Sto)} (h : f L s = some (.nx, L', s')) (h2 : g L' s' = r) : fSq f g L s = r := by
  unfold fSq
  rw [h]
  exact h2
theorem rt_eq {f : FE} {L : Loc} {s s' : Sto} {d : D} (h : f L s = some (d, s')) : fRt f L s = some (.rt d, L, s') := by
  unfold fRt
  rw [h]
  rfl
theorem run_rt {n np : Nat} {B : FS} {ds : List D} {s t : Sto} {L' : Loc} {d : D} {r : D × Sto} (hl : ds.length = np) (h : B (startL n ds) s = some (.rt d, L', t)) (hg : gc s d t = r) : run n np B ds s = some r := by
  unfold run
  rw [if_pos hl, h]
  simp only [Option.bind_some, hg]
theorem run_nx {n np : Nat} {B : FS} {ds : List D} {s t : Sto} {L' : Loc} {r : D × Sto} (hl : ds.length = np) (h : B (startL n ds) s = some (.nx, L', t)) (hg : gc s .non t = r) : run n np B ds s = some r := by
  unfold run
  rw [if_pos hl, h]
  simp only [Option.bind_some, hg]
def keysG (G R : Nat) : List D := (List.range R).map fun p : Nat => kt (G, (p : Int))
theorem sortOk_keys : ∀ G, G < 6 → ∀ R, R ≤ 12 → sortOk (keysG G R) = true := by decide +kernel
theorem sorted_keys (G R : Nat) : ∃ ds : List (Nat × Int), sortDs (keysG G R) = ds.map kt ∧ ds.Nodup ∧ ∀ z, z ∈ ds ↔ ∃ p : Nat, p < R ∧ z = (G, (p : Int)) := by
  have hp : (sortDs (keysG G R)).Perm (keysG G R) := List.mergeSort_perm _ _
  refine ⟨(sortDs (keysG G R)).map fun d => (G, d.p2.toI), ?_, ?_, ?_⟩
  · rw [List.map_map]
    have : ∀ d ∈ sortDs (keysG G R), (kt ∘ fun d : D => (G, d.p2.toI)) d = id d := by
      intro d hd
      obtain ⟨p, _, rfl⟩ := List.mem_map.mp (hp.mem_iff.mp hd)
      rfl
    rw [List.map_congr_left this, List.map_id]
  · have h2 := hp.map fun d : D => (G, d.p2.toI)
    rw [h2.nodup_iff]
    unfold keysG
    rw [List.map_map]
    refine List.pairwise_map.mpr (List.nodup_range.imp fun hab e => hab ?_)
    have := congrArg Prod.snd e
    simp only [Function.comp_apply, kt, p2_tup, toI_int] at this
    omega
  · intro z
    rw [List.mem_map]
    constructor
    · rintro ⟨d, hd, rfl⟩
      obtain ⟨p, hp', rfl⟩ := List.mem_map.mp (hp.mem_iff.mp hd)
      exact ⟨p, List.mem_range.mp hp', rfl⟩
    · rintro ⟨p, hp', rfl⟩
      exact ⟨kt (G, (p : Int)), hp.mem_iff.mpr (List.mem_map.mpr ⟨p, List.mem_range.mpr hp', rfl⟩), rfl⟩
theorem pairsT_keys (G : Nat) : ∀ l : List Nat, pairsT (l.map fun p : Nat => D.tup [kt (G, (p : Int)), .int 0]) = some (l.map fun p : Nat => (kq G (p : Int), D.int 0))
  | [] => rfl
  | p :: l => by
    have e : pairsT ((p :: l).map fun p : Nat => D.tup [kt (G, (p : Int)), .int 0]) = (pairsT (l.map fun p : Nat => D.tup [kt (G, (p : Int)), .int 0])).map fun t => (kq G (p : Int), D.int 0) :: t := rfl
    rw [e, pairsT_keys G l]
    rfl
theorem B_levels_eq : B_levels_by = fSq (fPar3 3 4 5 (fAc (fCall F_known_gates (fAc (fvar 1) fA0)) (fAc (fE2 ixD (fvar 1) (fC (.int 0))) (fAc (fCall F_goes_into (fAc (fvar 0) fA0)) fA0))))
      (fSq (fAs (fCB dictTD (fAc (fLc (fRng1 (fAc (fvar 4) fA0)) (fNm 10) fYes (fTup (fAc (fTup (fAc (fvar 2) (fAc (fvar 10) fA0))) (fAc (fC (.int 0)) fA0))) [10]) fA0)) (fNm 6))
      (fSq (fAs (fTup (fAc (fDK1 (fC (.int 0)) (fCB sortD (fAc (fvar 6) fA0))) (fAc (fC (.int 0)) fA0))) (fGt 2 (fGc (fNm 7) (fGc (fNm 8) fG0))))
      (fSq fWhile (fRt (fvar 6))))) := rfl
theorem f_levels {w : Wd} (o : w.Ok) {G : Nat} (hG : G < w.m) (s : Sto) : ∃ f t fo, F_levels_by [flo w.m, gates w, cl G] s = some (.ref f, t) ∧ Gr s t ∧ s.length ≤ f ∧ Fd w G f fo t := by
  have hs : sizeLine = 16777216 := sizeLine_eq
  have m6 := o.m6
  have r1 := o.r1
  have r12 := o.r12
  have i0 : ∀ s, ixD (gates w) (.int 0) s = some (.int w.R, s) := fun s => ix_T rfl s
  obtain ⟨k, t1, k1, g1, hk, hd⟩ := f_known o s
  obtain ⟨q, t2, q1, g2, hq, hn⟩ := f_goes_into (m := w.m) o.m6 t1
  have hkl : k < t1.length := (List.getElem?_eq_some_iff.mp hd).1
  have hl12 := g2.len
  have hl01 := g1.len
  have hql : q < t2.length := by
    obtain ⟨a, a1, _⟩ := hn.at' 0 (by omega)
    unfold dget at a1
    rcases e : t2[q]? with _ | z
    · rw [e] at a1
      simp at a1
    · exact (List.getElem?_eq_some_iff.mp e).1
  have cx : Cx w G k q t2 := ⟨o, hG, by omega, hql, by
    unfold Kn
    rw [g2.at hd]
    rfl, hn⟩
  -- the goal's own
  obtain ⟨t3, c1, g3, c3⟩ := lc_map (fi := fRng1 (fAc (fvar 4) fA0)) (fg := fNm 10) (fe := fTup (fAc (fTup (fAc (fvar 2) (fAc (fvar 10) fA0))) (fAc (fC (.int 0)) fA0))) (vs := [10])
    (L := [some (flo w.m), some (gates w), some (cl G), some (.ref k), some (.int w.R), some (.ref q), none, none, none, none, none, none, none, none, none, none, none, none]) (s := t2) (s0 := t2) (items := (List.range w.R).map fun i => D.int (i : Nat)) (chk := [])
    (fun d => .tup [.tup [cl G, d], .int 0]) (i_Rng1 (by simp) (by omega)) (by simp) (fun d hd => ⟨_, fun _ => rfl, fun s' g => ⟨s', by
      simp -implicitDefEqProofs [wipeL, sz2], Gr.refl _⟩⟩) (sz _ (by simp; omega))
  have hm : ((List.range w.R).map fun i => D.int (i : Nat)).map (fun d => D.tup [.tup [cl G, d], .int 0]) = (List.range w.R).map fun p : Nat => D.tup [kt (G, (p : Int)), .int 0] := by
    rw [List.map_map]
    rfl
  rw [hm] at c3
  let fo0 : List (List Key × D) := (List.range w.R).map fun p : Nat => (kq G (p : Int), D.int 0)
  have nf0 : (fo0.map (·.1)).Nodup := by
    show (((List.range w.R).map fun p : Nat => (kq G (p : Int), D.int 0)).map (·.1)).Nodup
    rw [List.map_map]
    refine List.pairwise_map.mpr (List.nodup_range.imp fun hab e => hab ?_)
    have := (kq_inj (i := G) (j := G) (by omega) (by omega) e).2
    omega
  have d1 : dictTD [.ref t2.length] t3 = some (.ref t3.length, t3 ++ [.dT fo0]) := by
    have e : lstD t3 (.ref t2.length) = some ((List.range w.R).map fun p : Nat => D.tup [kt (G, (p : Int)), .int 0]) := by simp [lstD, c3]
    unfold dictTD
    simp only [e, Option.bind_some, pairsT_keys]
    have hl : fo0.length ≤ sizeLine := sz _ (by show ((List.range w.R).map _).length ≤ 1000; simp; omega)
    exact if_pos (by rw [decide_eq_true nf0, decide_eq_true hl]; rfl)
  have hl23 := g3.len
  have ks : dkeysD (.dT fo0) = some (keysG G w.R) := by
    unfold dkeysD keysG
    show some (((List.range w.R).map fun p : Nat => (kq G (p : Int), D.int 0)).map _) = _
    rw [List.map_map]
    rfl
  have so := sortOk_keys G (by omega) w.R r12
  obtain ⟨t4, ht4⟩ : ∃ t4, t4 = t3 ++ [O.dT fo0] := ⟨_, rfl⟩
  rw [← ht4] at d1
  have l4 : t4.length = t3.length + 1 := by rw [ht4]; simp
  have f4 : t4[t3.length]? = some (.dT fo0) := by rw [ht4]; simp
  have s1 : sortD [.ref t3.length] (t4 ++ [.dK []]) = some (.ref (t4.length + 1), t4 ++ [.dK []] ++ [.lst (sortDs (keysG G w.R))]) := by
    have e : (t4 ++ [O.dK []])[t3.length]? = some (.dT fo0) := (Gr.app t4 _).at f4
    have e2 : (t4 ++ [O.dK []]).length = t4.length + 1 := by simp
    unfold sortD
    simp only [e, ks, so, if_true, e2]
  obtain ⟨t5, ht5⟩ : ∃ t5 : Sto, t5 = (t4 ++ [O.dK []] ++ [O.lst (sortDs (keysG G w.R))]).set t4.length (.dK [(.inl 0, .ref (t4.length + 1))]) := ⟨_, rfl⟩
  have e5 : fDK1 (fC (.int 0)) (fCB sortD (fAc (fvar 6) fA0)) [some (flo w.m), some (gates w), some (cl G), some (.ref k), some (.int w.R), some (.ref q), some (.ref t3.length), none, none, none, none, none, none, none, none, none, none, none] t4 = some (.ref t4.length, t5) := by
    have e : (t4 ++ [O.dK []] ++ [O.lst (sortDs (keysG G w.R))])[t4.length]? = some (.dK []) := by
      rw [List.getElem?_append_left (by simp)]
      simp
    unfold fDK1
    simp -implicitDefEqProofs only [e_C, Option.bind_some, e_CB, e_Ac, e_A0, v_at (i := 6) (L := [some (flo w.m), some (gates w), some (cl G), some (.ref k), some (.int w.R), some (.ref q), some (.ref t3.length), none, none, none, none, none, none, none, none, none, none, none]) rfl, s1, e]
    rw [ht5]
    rfl
  have g5 : Gr t2 t5 := by
    rw [ht5]
    refine Gr.set ?_ (by omega) _
    rw [ht4]
    exact ((g3.trans (Gr.app _ _)).trans (Gr.app _ _)).trans (Gr.app _ _)
  have x1 : t5[t3.length]? = some (.dT fo0) := by
    rw [ht5, List.getElem?_set_ne (by omega)]
    exact ((Gr.app t4 _).trans (Gr.app _ _)).at f4
  have x2 : t5[t4.length]? = some (.dK [(.inl 0, .ref (t4.length + 1))]) := by
    rw [ht5, List.getElem?_set_self (by simp)]
  obtain ⟨ds, b1, b2, b3⟩ := sorted_keys G w.R
  have x3 : t5[t4.length + 1]? = some (.lst (ds.map kt)) := by
    rw [ht5, List.getElem?_set_ne (by omega), ← b1]
    rw [List.getElem?_append_right (by simp)]
    simp
  have val0 : ∀ {n : Int} {d : D}, valD [((.inl 0 : Key), D.ref (t4.length + 1))] (.inl n) = some d → n = 0 ∧ d = .ref (t4.length + 1) := by
    intro n d e
    unfold valD at e
    by_cases h : (Sum.inl 0 : Key) = .inl n
    · rw [if_pos h] at e
      injection h with h
      exact ⟨h.symm, (Option.some.inj e).symm⟩
    · rw [if_neg h] at e
      cases e
  have vals : ∀ {i : Nat} {p : Int} {d : D}, Vd w G i p → valD fo0 (kq i p) = some d → i = G ∧ d = .int 0 := by
    intro i p d hv e
    obtain ⟨p', _, e2⟩ := List.mem_map.mp (val_mem e)
    injection e2 with e2 e3
    have := hv.i
    exact ⟨(kq_inj (i := G) (j := i) (by omega) (by omega) e2).1.symm, e3.symm⟩
  have own : ∀ {p : Int}, Vd w G G p → valD fo0 (kq G p) = some (.int 0) := fun {p} hv => by
    refine mem_val nf0 (List.mem_map.mpr ⟨p.toNat, List.mem_range.mpr ?_, ?_⟩)
    · have := hv.hi
      have := hv.lo
      omega
    · rw [Int.toNat_of_nonneg hv.lo]
  have lv : Lv w G 0 t2 t5 t3.length t4.length fo0 [(.inl 0, .ref (t4.length + 1))] := by
    refine ⟨g5, by omega, by omega, by omega, x1, x2, nf0, by simp, ?_, ?_, ?_, ?_, ?_⟩
    · intro kv hkv
      obtain ⟨p, hp, rfl⟩ := List.mem_map.mp hkv
      rw [List.mem_range] at hp
      exact ⟨G, p, 0, rfl, ⟨Nat.le_refl _, by omega, by omega⟩, by rw [lev_goal]; exact Int.le_refl _⟩
    · intro kv hkv
      simp only [List.mem_cons, List.not_mem_nil, or_false] at hkv
      subst hkv
      refine ⟨0, t4.length + 1, ds, rfl, Int.le_refl _, by omega, by omega, by omega, by omega, x3, b2, fun z hz => ?_⟩
      obtain ⟨p, hp, rfl⟩ := (b3 z).mp hz
      have hv : Vd w G G (p : Int) := ⟨Nat.le_refl _, by omega, by omega⟩
      exact ⟨hv, 0, own hv, Int.le_refl _⟩
    · intro n n' r e e'
      rw [(val0 e).1, (val0 e').1]
    · intro i p v hv e hN
      obtain ⟨rfl, e2⟩ := vals hv e
      injection e2 with e2
      subst e2
      refine ⟨t4.length + 1, ds, by simp [valD], x3, (b3 _).mpr ⟨p.toNat, ?_, ?_⟩⟩
      · have := hv.hi
        have := hv.lo
        omega
      · rw [Int.toNat_of_nonneg hv.lo]
    · intro i p hv hs
      rcases hs with rfl | hs
      · rw [own hv, lev_goal]
      · have := slv_nn (G := G) o i p
        omega
  obtain ⟨t, L', N', fo', lo', w1, w2, w3, w4⟩ := while_ok cx lv none none none none none none none none none
  refine ⟨t3.length, t, fo', ?_, (g1.trans g2).trans w3.gr, by omega, w3.all cx w4⟩
  have fin : gc s (.ref t3.length) t = (.ref t3.length, t) := gc_ref (by omega)
  have p1 : fPar3 3 4 5 (fAc (fCall F_known_gates (fAc (fvar 1) fA0)) (fAc (fE2 ixD (fvar 1) (fC (.int 0))) (fAc (fCall F_goes_into (fAc (fvar 0) fA0)) fA0))) [some (flo w.m), some (gates w), some (cl G), none, none, none, none, none, none, none, none, none, none, none, none, none, none, none] s = some (.nx, [some (flo w.m), some (gates w), some (cl G), some (.ref k), some (.int w.R), some (.ref q), none, none, none, none, none, none, none, none, none, none, none, none], t2) := by
    simp -implicitDefEqProofs [k1, i0, q1]
  have p2 : fAs (fCB dictTD (fAc (fLc (fRng1 (fAc (fvar 4) fA0)) (fNm 10) fYes (fTup (fAc (fTup (fAc (fvar 2) (fAc (fvar 10) fA0))) (fAc (fC (.int 0)) fA0))) [10]) fA0)) (fNm 6) [some (flo w.m), some (gates w), some (cl G), some (.ref k), some (.int w.R), some (.ref q), none, none, none, none, none, none, none, none, none, none, none, none] t2 = some (.nx, [some (flo w.m), some (gates w), some (cl G), some (.ref k), some (.int w.R), some (.ref q), some (.ref t3.length), none, none, none, none, none, none, none, none, none, none, none], t4) := by
    simp -implicitDefEqProofs [c1, d1]
  have p3 : fAs (fTup (fAc (fDK1 (fC (.int 0)) (fCB sortD (fAc (fvar 6) fA0))) (fAc (fC (.int 0)) fA0))) (fGt 2 (fGc (fNm 7) (fGc (fNm 8) fG0))) [some (flo w.m), some (gates w), some (cl G), some (.ref k), some (.int w.R), some (.ref q), some (.ref t3.length), none, none, none, none, none, none, none, none, none, none, none] t4 = some (.nx, lvL w G k q t3.length t4.length 0 none none none none none none none none none, t5) := by
    simp -implicitDefEqProofs [e5, sz2, lvL]
  have hB : B_levels_by [some (flo w.m), some (gates w), some (cl G), none, none, none, none, none, none, none, none, none, none, none, none, none, none, none] s = some (.rt (.ref t3.length), L', t) := by
    rw [B_levels_eq]
    exact sq_nx p1 (sq_nx p2 (sq_nx p3 (sq_nx w1 (rt_eq (v_at w2 t)))))
  exact run_rt rfl hB fin
end FL

set_option Elab.async false
set_option linter.all false
set_option maxRecDepth 100000
set_option autoImplicit false
namespace FL
open PySem PySem.Spec PyProof.Rows L2
/-! ### the trip -/
def leg (w : Wd) (i : Nat) (t : Int) : D := .tup [.int (go w i t), cl i, cl (i + 1)]
def tripL (w : Wd) : Nat → Nat → Int → List D
  | 0, _, _ => []
  | n + 1, i, t => leg w i t :: tripL w n (i + 1) (arr w i t)
theorem tripL_len (w : Wd) : ∀ (n i : Nat) (t : Int), (tripL w n i t).length = n
  | 0, _, _ => rfl
  | n + 1, i, t => by rw [tripL, List.length_cons, tripL_len w n]
theorem tripL_pure (w : Wd) : ∀ (n i : Nat) (t : Int), D.pures (tripL w n i t) = true
  | 0, _, _ => rfl
  | n + 1, i, t => by simp [tripL, D.pures, D.pure, leg, cl, tripL_pure w n]
theorem tripL_wait {w : Wd} (o : w.Ok) (n i : Nat) {t : Int} (h : opn w i t = false) : tripL w (n + 1) i t = tripL w (n + 1) i (t + 1) := by
  have e := go_next o h
  simp only [tripL, leg, arr, e]
theorem tripL_go {w : Wd} (o : w.Ok) (n i : Nat) {t : Int} (h : opn w i t = true) : tripL w (n + 1) i t = .tup [.int t, cl i, cl (i + 1)] :: tripL w n (i + 1) (t + tk w i) := by
  have e := go_self o h
  simp only [tripL, leg, arr, e]
theorem Fd.grow {w : Wd} {G f : Nat} {fo : List (List Key × D)} {s t : Sto} (h : Fd w G f fo s) (g : Gr s t) : Fd w G f fo t := ⟨g.at h.sf, h.nf, h.vf, h.ex⟩
theorem vd_mod {w : Wd} (o : w.Ok) {G i : Nat} (hi : i ≤ G) (t : Int) : Vd w G i (t % w.R) := by
  have := o.r1
  exact ⟨hi, Int.emod_nonneg _ (by omega), Int.emod_lt_of_pos _ (by omega)⟩
theorem Fd.get {w : Wd} (o : w.Ok) {G f i : Nat} {fo : List (List Key × D)} {s : Sto} (h : Fd w G f fo s) (hi : i ≤ G) (t : Int) : dget s f (.tup [cl i, .int (t % w.R)]) = some (some (.int (lev w G i t))) := by
  have e := get_T h.sf (i, t % w.R)
  unfold kt at e
  rw [e, h.ex i _ (vd_mod o hi t), lev_mod o]
theorem Fd.ix {w : Wd} (o : w.Ok) {G f i : Nat} {fo : List (List Key × D)} {s : Sto} (h : Fd w G f fo s) (hi : i ≤ G) (t : Int) : ixD (.ref f) (.tup [cl i, .int (t % w.R)]) s = some (.int (lev w G i t), s) := ix_ref (nl_T h.sf) (h.get o hi t)
theorem Fd.isd {w : Wd} {G f : Nat} {fo : List (List Key × D)} {s : Sto} (h : Fd w G f fo s) : isDictR s (.ref f) = true := by
  unfold isDictR
  simp only [h.sf]
  rfl
theorem Nbfrom.grow {m k : Nat} {s t : Sto} (h : Nbfrom m k s) (hk : k < s.length) (g : Gr s t) : Nbfrom m k t := by
  have e : t[k]? = s[k]? := by
    obtain ⟨r, rfl⟩ := g
    rw [List.getElem?_append_left hk]
  refine ⟨fun ds => by rw [e]; exact h.nl ds, fun j hj => ?_⟩
  obtain ⟨a, a1, a2⟩ := h.at' j hj
  refine ⟨a, ?_, g.at a2⟩
  unfold dget at *
  rw [e]
  exact a1
theorem Nbfrom.lt {m k : Nat} {s : Sto} (h : Nbfrom m k s) (hm : 0 < m) : k < s.length := by
  obtain ⟨a, a1, _⟩ := h.at' 0 hm
  unfold dget at a1
  rcases e : s[k]? with _ | z
  · rw [e] at a1
    simp at a1
  · exact (List.getElem?_eq_some_iff.mp e).1
theorem ne_nil {a b : Nat} {xs : List D} {s : Sto} (ha : s[a]? = some (.lst xs)) (hb : s[b]? = some (.lst [])) (hp : D.pures xs = true) : neD (.ref a) (.ref b) s = some (.bl (!decide (xs = [])), s) := by
  have e1 : PL s (.ref a) = some (.list (D.Ps xs), D.deps xs + 1) := by simp [PL, ha, hp]
  have e2 : PL s (.ref b) = some (.list [], 1) := by simp [PL, hb, D.pures, D.Ps, D.deps]
  unfold neD eqv2
  rw [e1, e2]
  simp only [Option.bind_some]
  rw [if_pos (by omega)]
  cases xs with
  | nil => rfl
  | cons x xs => rfl
theorem i_AppS {fr fe : FE} {L : Loc} {s : Sto} {n : Nat} {x : D} {ds : List D} (h1 : fr L s = some (.ref n, s)) (h2 : fe L s = some (x, s)) (h3 : s[n]? = some (.lst ds)) (h5 : ds.length ≤ 1000) :
    fEx (fM "list" appD fr (fAc fe fA0)) L s = some (.nx, L, s.set n (.lst (ds ++ [x]))) := i_App' h1 h2 h3 h3 (by rw [sizeLine_eq]; omega)
def trL (w : Wd) (G f k q tr i : Nat) (t : Int) (x10 x11 x12 x13 x14 : Option D) : Loc :=
  [some (flo w.m), some (gates w), some (.ref f), some (cl i), some (.int t), some (cl G), some (.ref k), some (.int w.R), some (.ref q), some (.ref tr), x10, x11, x12, x13, x14]
def fFine : FS := fFor (fSeqI (fE2 ixD (fvar 8) (fvar 3))) (fNm 12)
    (fSq (fAs (fCall F_takes_of (fAc (fvar 6) (fAc (fTup (fAc (fvar 3) (fAc (fvar 12) fA0))) fA0))) (fNm 13))
    (fSq (fAs (fGet2 (fvar 2) (fTup (fAc (fvar 12) (fAc (fE2 modD (fE2 addD (fvar 4) (fvar 13)) (fvar 7)) fA0))) (fC .non)) (fNm 14))
    (fIfS (fAnd (fTb (fCall F_is_open (fAc (fvar 6) (fAc (fTup (fAc (fvar 3) (fAc (fvar 12) fA0))) (fAc (fE2 modD (fvar 4) (fvar 7)) fA0))))) (fAnd (fTb (fE2 isnD (fvar 14) (fC .non))) (fTb (fE2 eqD (fE2 addD (fvar 14) (fvar 13)) (fvar 10))))) (fEx (fM "list" appD (fvar 11) (fAc (fTup (fAc (fvar 12) (fAc (fvar 13) fA0))) fA0))) fNx)))
def fStep : FS := fIfS (fTb (fE2 neD (fvar 11) (fLst fA0))) (fSq (fEx (fM "list" appD (fvar 9) (fAc (fTup (fAc (fvar 4) (fAc (fvar 3) (fAc (fE2 ixD (fE2 ixD (fvar 11) (fC (.int 0))) (fC (.int 0))) fA0)))) fA0)))
    (fPar 3 4 (fAc (fE2 ixD (fE2 ixD (fvar 11) (fC (.int 0))) (fC (.int 0))) (fAc (fE2 addD (fvar 4) (fE2 ixD (fE2 ixD (fvar 11) (fC (.int 0))) (fC (.int 1)))) fA0)))) (fAs (fE2 addD (fvar 4) (fC (.int 1))) (fNm 4))
def fTripB : FS := fSq (fAs (fE2 ixD (fvar 2) (fTup (fAc (fvar 3) (fAc (fE2 modD (fvar 4) (fvar 7)) fA0)))) (fNm 10))
    (fSq (fAs (fLst fA0) (fNm 11))
    (fSq fFine fStep))
section
variable {w : Wd} {G f k q tr i : Nat} {t : Int} {fo : List (List Key × D)}
/-- the list of the fine ones -/
theorem fine_ok (o : w.Ok) {s : Sto} (hf : Fd w G f fo s) (hk : Kn w k s) (hn : Nbfrom w.m q s) (hq : q < s.length) (hkl : k < s.length) (hi : i < G) (hG : G < w.m) {fn : Nat} (hfn : s[fn]? = some (.lst [])) (hfl : fn + 1 = s.length) (hkn : k ≠ fn) (x12 x13 x14 : Option D) :
    ∃ y12 y13 y14, fFine (trL w G f k q tr i t (some (.int (lev w G i t))) (some (.ref fn)) x12 x13 x14) s = some (.nx, trL w G f k q tr i t (some (.int (lev w G i t))) (some (.ref fn)) y12 y13 y14, s.set fn (.lst (if opn w i t = true then [.tup [cl (i + 1), .int (tk w i)]] else []))) := by
  have r1 := o.r1
  have hR : (0 : Int) < w.R := by omega
  obtain ⟨a, d1, d2⟩ := hn.at' i (by omega)
  rw [if_pos (by omega)] at d2
  have ix1 : ixD (.ref q) (cl i) s = some (.ref a, s) := ix_ref hn.nl d1
  have eI : fSeqI (fE2 ixD (fvar 8) (fvar 3)) (trL w G f k q tr i t (some (.int (lev w G i t))) (some (.ref fn)) x12 x13 x14) s = some (⟨[cl (i + 1)], [(a, .lst [cl (i + 1)])]⟩, s) := by
    simp -implicitDefEqProofs [fSeqI, trL, ix1, seqI, d2]
  have st : stands [(a, O.lst [cl (i + 1)])] s = true := stands_of fun c hc => by
    simp only [List.mem_cons, List.not_mem_nil, or_false] at hc
    subst hc
    exact d2
  have haf : a ≠ fn := fun e => by
    rw [e, hfn] at d2
    cases d2
  have c1 := f_takes o hk (i := i) (by omega)
  have c2 := f_open o hk (i := i) (by omega) (p := t % w.R) (t := t) rfl
  unfold wy at c1 c2
  have c3 := hf.get o (i := i + 1) (by omega) (t + tk w i)
  have e14 : fGet2 (fvar 2) (fTup (fAc (fvar 12) (fAc (fE2 modD (fE2 addD (fvar 4) (fvar 13)) (fvar 7)) fA0))) (fC .non) (trL w G f k q tr i t (some (.int (lev w G i t))) (some (.ref fn)) (some (cl (i + 1))) (some (.int (tk w i))) x14) s = some (.int (lev w G (i + 1) (t + tk w i)), s) :=
    i_Get2 (fd := fvar 2) (fx := fC .non) (y := .tup [cl (i + 1), .int ((t + tk w i) % w.R)]) rfl hf.isd (by simp -implicitDefEqProofs [trL, o_mod hR, sz2]) rfl c3
  have body : ∃ y, fSq (fAs (fCall F_takes_of (fAc (fvar 6) (fAc (fTup (fAc (fvar 3) (fAc (fvar 12) fA0))) fA0))) (fNm 13))
    (fSq (fAs (fGet2 (fvar 2) (fTup (fAc (fvar 12) (fAc (fE2 modD (fE2 addD (fvar 4) (fvar 13)) (fvar 7)) fA0))) (fC .non)) (fNm 14))
    (fIfS (fAnd (fTb (fCall F_is_open (fAc (fvar 6) (fAc (fTup (fAc (fvar 3) (fAc (fvar 12) fA0))) (fAc (fE2 modD (fvar 4) (fvar 7)) fA0))))) (fAnd (fTb (fE2 isnD (fvar 14) (fC .non))) (fTb (fE2 eqD (fE2 addD (fvar 14) (fvar 13)) (fvar 10))))) (fEx (fM "list" appD (fvar 11) (fAc (fTup (fAc (fvar 12) (fAc (fvar 13) fA0))) fA0))) fNx))
      (trL w G f k q tr i t (some (.int (lev w G i t))) (some (.ref fn)) (some (cl (i + 1))) x13 x14) s = some (.nx, trL w G f k q tr i t (some (.int (lev w G i t))) (some (.ref fn)) (some (cl (i + 1))) (some (.int (tk w i))) y, s.set fn (.lst (if opn w i t = true then [.tup [cl (i + 1), .int (tk w i)]] else []))) := by
    refine ⟨some (.int (lev w G (i + 1) (t + tk w i))), ?_⟩
    have e13 : fAs (fCall F_takes_of (fAc (fvar 6) (fAc (fTup (fAc (fvar 3) (fAc (fvar 12) fA0))) fA0))) (fNm 13) (trL w G f k q tr i t (some (.int (lev w G i t))) (some (.ref fn)) (some (cl (i + 1))) x13 x14) s = some (.nx, trL w G f k q tr i t (some (.int (lev w G i t))) (some (.ref fn)) (some (cl (i + 1))) (some (.int (tk w i))) x14, s) := by
      simp -implicitDefEqProofs [trL, sz2, c1]
    have e14' : fAs (fGet2 (fvar 2) (fTup (fAc (fvar 12) (fAc (fE2 modD (fE2 addD (fvar 4) (fvar 13)) (fvar 7)) fA0))) (fC .non)) (fNm 14) (trL w G f k q tr i t (some (.int (lev w G i t))) (some (.ref fn)) (some (cl (i + 1))) (some (.int (tk w i))) x14) s = some (.nx, trL w G f k q tr i t (some (.int (lev w G i t))) (some (.ref fn)) (some (cl (i + 1))) (some (.int (tk w i))) (some (.int (lev w G (i + 1) (t + tk w i)))), s) := by
      unfold fAs
      rw [e14]
      rfl
    rw [e_Sq, e13]
    simp only [Option.bind_some]
    rw [e_Sq, e14']
    simp only [Option.bind_some]
    by_cases hop : opn w i t = true
    · rw [hop] at c2
      have e15 := lev_open o hi hop
      have e16 : lev w G (i + 1) (t + tk w i) + tk w i = lev w G i t := by omega
      have e17 := i_AppS (fr := fvar 11) (fe := fTup (fAc (fvar 12) (fAc (fvar 13) fA0))) (L := trL w G f k q tr i t (some (.int (lev w G i t))) (some (.ref fn)) (some (cl (i + 1))) (some (.int (tk w i))) (some (.int (lev w G (i + 1) (t + tk w i))))) (s := s) (x := .tup [cl (i + 1), .int (tk w i)]) rfl (by simp -implicitDefEqProofs [trL, sz2]) hfn (by simp)
      have e18 : fAnd (fTb (fCall F_is_open (fAc (fvar 6) (fAc (fTup (fAc (fvar 3) (fAc (fvar 12) fA0))) (fAc (fE2 modD (fvar 4) (fvar 7)) fA0))))) (fAnd (fTb (fE2 isnD (fvar 14) (fC .non))) (fTb (fE2 eqD (fE2 addD (fvar 14) (fvar 13)) (fvar 10)))) (trL w G f k q tr i t (some (.int (lev w G i t))) (some (.ref fn)) (some (cl (i + 1))) (some (.int (tk w i))) (some (.int (lev w G (i + 1) (t + tk w i))))) s = some (true, s) := by
        simp -implicitDefEqProofs [trL, sz2, o_mod hR, c2, isnD, e16]
      rw [e_IfS, e18, if_pos hop]
      exact e17
    · have hop' : opn w i t = false := by simpa using hop
      rw [hop'] at c2
      have e18 : fAnd (fTb (fCall F_is_open (fAc (fvar 6) (fAc (fTup (fAc (fvar 3) (fAc (fvar 12) fA0))) (fAc (fE2 modD (fvar 4) (fvar 7)) fA0))))) (fAnd (fTb (fE2 isnD (fvar 14) (fC .non))) (fTb (fE2 eqD (fE2 addD (fvar 14) (fvar 13)) (fvar 10)))) (trL w G f k q tr i t (some (.int (lev w G i t))) (some (.ref fn)) (some (cl (i + 1))) (some (.int (tk w i))) (some (.int (lev w G (i + 1) (t + tk w i))))) s = some (false, s) := by
        simp -implicitDefEqProofs [trL, sz2, o_mod hR, c2]
      have e19 : s.set fn (.lst []) = s := by
        apply List.ext_getElem?
        intro j
        by_cases hj : fn = j
        · subst hj
          rw [List.getElem?_set_self (by omega), hfn]
        · rw [List.getElem?_set_ne hj]
      rw [e_IfS, e18, if_neg hop, e19]
      rfl
  obtain ⟨y, body⟩ := body
  refine ⟨some (cl (i + 1)), some (.int (tk w i)), y, ?_⟩
  unfold fFine fFor
  rw [eI]
  simp only [Option.bind_some]
  have e6 : fNm 12 (cl (i + 1)) (trL w G f k q tr i t (some (.int (lev w G i t))) (some (.ref fn)) x12 x13 x14) s = some (trL w G f k q tr i t (some (.int (lev w G i t))) (some (.ref fn)) (some (cl (i + 1))) x13 x14, s) := rfl
  rw [fLoop, if_pos st, e6]
  simp only [Option.bind_some, body]
  have st2 : stands [(a, O.lst [cl (i + 1)])] (s.set fn (.lst (if opn w i t = true then [.tup [cl (i + 1), .int (tk w i)]] else []))) = true := stands_of fun c hc => by
    simp only [List.mem_cons, List.not_mem_nil, or_false] at hc
    subst hc
    show (s.set fn _)[a]? = _
    rw [List.getElem?_set_ne (fun e => haf e.symm)]
    exact d2
  rw [fLoop, if_pos st2]
end
end FL

set_option Elab.async false
set_option linter.all false
set_option maxRecDepth 100000
set_option autoImplicit false
namespace FL
open PySem PySem.Spec PyProof.Rows L2
section
variable {w : Wd} {G f k q tr : Nat} {fo : List (List Key × D)}
def fTripW : FS := fWh (fTb (fE2 neD (fvar 3) (fvar 5))) fTripB 100000
structure TrI (w : Wd) (G f k q tr : Nat) (fo : List (List Key × D)) (base : Sto) (T : List D) (i : Nat) (t : Int) (pre : List D) (s : Sto) : Prop where
  ile : i ≤ G
  gr : Gr base s
  at' : s[tr]? = some (.lst pre)
  eq : pre ++ tripL w (G - i) i t = T
structure TrB (w : Wd) (G f k q tr : Nat) (fo : List (List Key × D)) (base : Sto) (T : List D) : Prop where
  o : w.Ok
  g : G < w.m
  fd : Fd w G f fo base
  kn : Kn w k base
  nb : Nbfrom w.m q base
  kl : k < base.length
  ql : q < base.length
  tr : base.length ≤ tr
  T : T.length ≤ 1000
theorem trip_step {base : Sto} {T : List D} (b : TrB w G f k q tr fo base T) {i : Nat} {t : Int} {pre : List D} {s : Sto} (h : TrI w G f k q tr fo base T i t pre s) (hi : i < G) (x10 x11 x12 x13 x14 : Option D) :
    ∃ i' t' pre' s' y10 y11 y12 y13 y14, fTripB (trL w G f k q tr i t x10 x11 x12 x13 x14) s = some (.nx, trL w G f k q tr i' t' y10 y11 y12 y13 y14, s') ∧ TrI w G f k q tr fo base T i' t' pre' s' ∧ (lev w G i' t').toNat < (lev w G i t).toNat := by
  have o := b.o
  have r1 := o.r1
  have hR : (0 : Int) < w.R := by omega
  have htr : tr < s.length := (List.getElem?_eq_some_iff.mp h.at').1
  have e10 : fAs (fE2 ixD (fvar 2) (fTup (fAc (fvar 3) (fAc (fE2 modD (fvar 4) (fvar 7)) fA0)))) (fNm 10) (trL w G f k q tr i t x10 x11 x12 x13 x14) s = some (.nx, trL w G f k q tr i t (some (.int (lev w G i t))) x11 x12 x13 x14, s) := by
    simp -implicitDefEqProofs [trL, o_mod hR, sz2, (b.fd.grow h.gr).ix o h.ile t]
  have e11 : fAs (fLst fA0) (fNm 11) (trL w G f k q tr i t (some (.int (lev w G i t))) x11 x12 x13 x14) s = some (.nx, trL w G f k q tr i t (some (.int (lev w G i t))) (some (.ref s.length)) x12 x13 x14, s ++ [.lst []]) := by
    simp -implicitDefEqProofs [trL, sz]
  have g1 : Gr base (s ++ [O.lst []]) := h.gr.trans (Gr.app _ _)
  have hbl := h.gr.len
  have hk := b.kl
  have hq := b.ql
  obtain ⟨y12, y13, y14, c1⟩ := fine_ok (tr := tr) (t := t) o (b.fd.grow g1) (b.kn.grow b.kl g1) (b.nb.grow b.ql g1) (by simp; omega) (by simp; omega) hi b.g (fn := s.length) (by simp) (by simp) (by omega) x12 x13 x14
  obtain ⟨X, hX⟩ : ∃ X : List D, X = if opn w i t = true then [.tup [cl (i + 1), .int (tk w i)]] else [] := ⟨_, rfl⟩
  rw [← hX] at c1
  have hset : (s ++ [O.lst []]).set s.length (.lst X) = s ++ [.lst X] := by
    rw [List.set_append_right _ _ (Nat.le_refl _)]
    simp
  rw [hset] at c1
  have hXp : D.pures X = true := by
    rw [hX]
    split <;> simp [D.pures, D.pure, cl]
  -- the test
  have e12 : fTb (fE2 neD (fvar 11) (fLst fA0)) (trL w G f k q tr i t (some (.int (lev w G i t))) (some (.ref s.length)) y12 y13 y14) (s ++ [.lst X]) = some (opn w i t, s ++ [.lst X] ++ [.lst []]) := by
    have n1 := ne_nil (a := s.length) (b := s.length + 1) (xs := X) (s := s ++ [.lst X] ++ [.lst []]) (by rw [List.getElem?_append_left (by simp)]; simp) (by
      rw [List.getElem?_append_right (by simp)]
      simp) hXp
    have e9 : (!decide (X = [])) = opn w i t := by
      rw [hX]
      by_cases hop : opn w i t = true
      · simp [hop]
      · simp [hop]
    rw [e9] at n1
    have hl : (s ++ [O.lst X]).length = s.length + 1 := by simp
    rw [List.append_assoc] at n1 ⊢
    simp -implicitDefEqProofs [trL, sz]
    simp at n1
    rw [n1]
    rfl
  have g3 : Gr s (s ++ [.lst X] ++ [.lst []]) := (Gr.app s _).trans (Gr.app _ _)
  obtain ⟨s3, hs3⟩ : ∃ s3, s3 = s ++ [O.lst X] ++ [.lst []] := ⟨_, rfl⟩
  rw [← hs3] at e12 g3
  have a3 : s3[tr]? = some (.lst pre) := g3.at h.at'
  have afn : s3[s.length]? = some (.lst X) := by
    rw [hs3, List.getElem?_append_left (by simp)]
    simp
  have hT : pre.length + (G - i) = T.length := by
    rw [← h.eq, List.length_append, tripL_len]
  have hTT := b.T
  have split : G - i = (G - (i + 1)) + 1 := by omega
  have whole : ∀ {r : Fl × Loc × Sto}, fStep (trL w G f k q tr i t (some (.int (lev w G i t))) (some (.ref s.length)) y12 y13 y14) (s ++ [.lst X]) = some r → fTripB (trL w G f k q tr i t x10 x11 x12 x13 x14) s = some r := by
    intro r hr
    exact sq_nx e10 (sq_nx e11 (sq_nx c1 hr))
  by_cases hop : opn w i t = true
  · have hX' : X = [.tup [cl (i + 1), .int (tk w i)]] := by rw [hX, if_pos hop]
    rw [hX'] at afn
    have ixa : ∀ {s' : Sto}, s'[s.length]? = some (.lst [.tup [cl (i + 1), .int (tk w i)]]) → ixD (.ref s.length) (.int 0) s' = some (.tup [cl (i + 1), .int (tk w i)], s') := fun e => ix_L e (atI_zero _ _)
    have ixb : ∀ s', ixD (.tup [cl (i + 1), .int (tk w i)]) (.int 0) s' = some (cl (i + 1), s') := fun s' => ix_T rfl s'
    have ixc : ∀ s', ixD (.tup [cl (i + 1), .int (tk w i)]) (.int 1) s' = some (.int (tk w i), s') := fun s' => ix_T rfl s'
    have e20 := i_AppS (fr := fvar 9) (fe := fTup (fAc (fvar 4) (fAc (fvar 3) (fAc (fE2 ixD (fE2 ixD (fvar 11) (fC (.int 0))) (fC (.int 0))) fA0)))) (L := trL w G f k q tr i t (some (.int (lev w G i t))) (some (.ref s.length)) y12 y13 y14) (s := s3) (n := tr) (x := .tup [.int t, cl i, cl (i + 1)]) rfl (by
      simp -implicitDefEqProofs [trL, sz3, ixa afn, ixb]) a3 (by omega)
    have afn4 : (s3.set tr (.lst (pre ++ [.tup [.int t, cl i, cl (i + 1)]])))[s.length]? = some (.lst [.tup [cl (i + 1), .int (tk w i)]]) := by
      rw [List.getElem?_set_ne (by omega)]
      exact afn
    refine ⟨i + 1, t + tk w i, pre ++ [.tup [.int t, cl i, cl (i + 1)]], _, some (.int (lev w G i t)), some (.ref s.length), y12, y13, y14, whole (r := (.nx, trL w G f k q tr (i + 1) (t + tk w i) (some (.int (lev w G i t))) (some (.ref s.length)) y12 y13 y14, s3.set tr (.lst (pre ++ [.tup [.int t, cl i, cl (i + 1)]])))) ?_, ⟨by omega, (h.gr.trans g3).set b.tr _, ?_, ?_⟩, ?_⟩
    · unfold fStep
      rw [e_IfS, e12, hop]
      simp only [Option.bind_some, if_true]
      rw [e_Sq, e20]
      simp only [Option.bind_some]
      simp -implicitDefEqProofs [trL, ixa afn4, ixb, ixc]
    · rw [List.getElem?_set_self (List.getElem?_eq_some_iff.mp a3).1]
    · rw [← h.eq, split, tripL_go o _ _ hop, List.append_assoc]
      rfl
    · have e := lev_open o hi hop
      have := tk_bd o i
      have := lev_nn o G (i + 1) (t + tk w i)
      omega
  · have hop' : opn w i t = false := by simpa using hop
    refine ⟨i, t + 1, pre, s3, some (.int (lev w G i t)), some (.ref s.length), y12, y13, y14, whole (r := (.nx, trL w G f k q tr i (t + 1) (some (.int (lev w G i t))) (some (.ref s.length)) y12 y13 y14, s3)) ?_, ⟨h.ile, h.gr.trans g3, a3, ?_⟩, ?_⟩
    · unfold fStep
      rw [e_IfS, e12, hop']
      simp -implicitDefEqProofs [trL]
    · rw [← h.eq, split, tripL_wait o _ _ hop']
    · have e := lev_wait o hi hop'
      have := lev_nn o G i (t + 1)
      omega
theorem f_trip {w : Wd} {G f i : Nat} {t : Int} {fo : List (List Key × D)} (o : w.Ok) (hG : G < w.m) (hi : i ≤ G) {s : Sto} (hf : Fd w G f fo s) : F_trip_by [flo w.m, gates w, .ref f, cl i, .int t, cl G] s = some (.ft (tripL w (G - i) i t), s) := by
  have m6 := o.m6
  have r1 := o.r1
  have r12 := o.r12
  have i0 : ∀ s, ixD (gates w) (.int 0) s = some (.int w.R, s) := fun s => ix_T rfl s
  obtain ⟨k, t1, k1, g1, hk, hd⟩ := f_known o s
  obtain ⟨q, t2, q1, g2, hq, hn⟩ := f_goes_from (m := w.m) o.m6 t1
  have hkl : k < t1.length := (List.getElem?_eq_some_iff.mp hd).1
  have hl12 := g2.len
  have hql := hn.lt (by omega)
  let T := tripL w (G - i) i t
  have hTl : T.length = G - i := tripL_len w _ _ _
  have B : TrB w G f k q t2.length fo t2 T := ⟨o, hG, (hf.grow g1).grow g2, by
    unfold Kn
    rw [g2.at hd]
    rfl, hn, by omega, hql, Nat.le_refl _, by rw [hTl]; omega⟩
  obtain ⟨L', u, e, hL, hu, hg⟩ := wh_inv (c := fTb (fE2 neD (fvar 3) (fvar 5))) (b := fTripB)
    (fun n L s => ∃ i t pre x10 x11 x12 x13 x14, L = trL w G f k q t2.length i t x10 x11 x12 x13 x14 ∧ TrI w G f k q t2.length fo t2 T i t pre s ∧ n = (lev w G i t).toNat)
    (fun L s => L[9]? = some (some (.ref t2.length)) ∧ s[t2.length]? = some (.lst T) ∧ Gr t2 s)
    (by
      intro n L s ⟨i, t, pre, x10, x11, x12, x13, x14, hL, hI, hn⟩
      subst hL
      have ec : fTb (fE2 neD (fvar 3) (fvar 5)) (trL w G f k q t2.length i t x10 x11 x12 x13 x14) s = some (!decide (nm i = nm G), s) := by
        simp -implicitDefEqProofs [trL, cl]
      by_cases hiG : i = G
      · left
        subst hiG
        refine ⟨s, by rw [ec]; simp, rfl, ?_, hI.gr⟩
        have := hI.eq
        rw [Nat.sub_self] at this
        simp only [tripL, List.append_nil] at this
        rw [← this]
        exact hI.at'
      · right
        have hlt : i < G := by have := hI.ile; omega
        obtain ⟨i', t', pre', s', y10, y11, y12, y13, y14, e1, e2, e3⟩ := trip_step B hI hlt x10 x11 x12 x13 x14
        refine ⟨s, _, s', _, by rw [ec, decide_eq_false fun e => hiG (nm_inj (by omega) (by omega) e)]; rfl, e1, by omega, i', t', pre', y10, y11, y12, y13, y14, rfl, e2, rfl⟩)
    100000 _ _ _ (by
      have := (lev_bd o G i t).2
      have : ((G - i : Nat) : Int) ≤ 5 := by omega
      show (lev w G i t).toNat < 100000
      omega) ⟨i, t, [], none, none, none, none, none, rfl, ⟨hi, Gr.app t2 [.lst []], by simp, rfl⟩, rfl⟩
  have fin : gc s (.ft T) u = (.ft T, s) := ((g1.trans g2).trans hg).finP (by simp only [D.pure]; exact tripL_pure _ _ _ _)
  have p1 : fAs (fTup (fAc (fCall F_known_gates (fAc (fvar 1) fA0)) (fAc (fE2 ixD (fvar 1) (fC (.int 0))) (fAc (fCall F_goes_from (fAc (fvar 0) fA0)) (fAc (fLst fA0) fA0))))) (fGt 4 (fGc (fNm 6) (fGc (fNm 7) (fGc (fNm 8) (fGc (fNm 9) fG0))))) [some (flo w.m), some (gates w), some (.ref f), some (cl i), some (.int t), some (cl G), none, none, none, none, none, none, none, none, none] s = some (.nx, trL w G f k q t2.length i t none none none none none, t2 ++ [.lst []]) := by
    simp -implicitDefEqProofs [k1, i0, q1, sz4, sz, trL]
  have hB : B_trip_by [some (flo w.m), some (gates w), some (.ref f), some (cl i), some (.int t), some (cl G), none, none, none, none, none, none, none, none, none] s = some (.rt (.ft T), L', u) := by
    have e0 : B_trip_by = fSq (fAs (fTup (fAc (fCall F_known_gates (fAc (fvar 1) fA0)) (fAc (fE2 ixD (fvar 1) (fC (.int 0))) (fAc (fCall F_goes_from (fAc (fvar 0) fA0)) (fAc (fLst fA0) fA0))))) (fGt 4 (fGc (fNm 6) (fGc (fNm 7) (fGc (fNm 8) (fGc (fNm 9) fG0))))))
      (fSq fTripW (fRt (fCB tupD (fAc (fvar 9) fA0)))) := rfl
    have e2 : tupD [.ref t2.length] u = some (.ft T, u) := by simp [tupD, lstD, hu]
    have e3 : fCB tupD (fAc (fvar 9) fA0) L' u = some (.ft T, u) := by
      rw [e_CB, e_Ac, v_at hL]
      exact e2
    rw [e0]
    exact sq_nx p1 (sq_nx (f := fTripW) e (rt_eq e3))
  exact run_rt rfl hB fin
end
end FL

set_option Elab.async false
set_option linter.all false
set_option maxRecDepth 100000
set_option autoImplicit false
namespace FL
open PySem PySem.Spec PyProof.Rows L2
/-! ### a comprehension over so many -/
theorem lc_range {fi : FI} {fg : FG} {fe : FE} {vs : List Nat} {L : Loc} {s s0 : Sto} {n : Nat} {g h : Nat → D} {c : List (Nat × O)} (hi : fi L s = some (⟨(List.range n).map g, c⟩, s0)) (hc : ∀ x ∈ c, s0[x.1]? = some x.2)
    (hE : ∀ i, i < n → ∃ L', (∀ s, fg (g i) (wipeL L vs) s = some (L', s)) ∧ ∀ s', Gr s0 s' → ∃ s2, fe L' s' = some (h i, s2) ∧ Gr s' s2) (hz : n ≤ 1000) :
    ∃ t, fLc fi fg fYes fe vs L s = some (.ref s0.length, t) ∧ Gr s0 t ∧ t[s0.length]? = some (.lst ((List.range n).map h)) := by
  obtain ⟨acc, t, e, a1, a2, a3⟩ := lc_inv (fg := fg) (ft := fYes) (fe := fe) (vs := vs) hi (fun i acc s => acc = (List.range i).map h ∧ Gr s0 s ∧ s[s0.length]? = some (.lst acc))
    (fun i acc s ⟨_, g, _⟩ => stands_of fun x hx => g.at (hc x hx))
    (by
      intro i d acc s hd ⟨ha, g, hk⟩
      have hin : i < n := by
        have := (List.getElem?_eq_some_iff.mp hd).1
        simpa using this
      rw [List.getElem?_map, List.getElem?_range hin] at hd
      cases hd
      obtain ⟨L', e1, e2⟩ := hE i hin
      obtain ⟨s2, e3, g2⟩ := e2 s g
      have hk2 := g2.at hk
      refine ⟨by rw [ha, sizeLine_eq]; simp; omega, L', s, s, h i, s2, e1 s, rfl, e3, hk2, ?_, (g.trans g2).set (Nat.le_refl _) _, ?_⟩
      · rw [ha, List.range_succ, List.map_append]
        rfl
      · rw [List.getElem?_set_self (List.getElem?_eq_some_iff.mp hk2).1])
    ⟨rfl, Gr.app _ _, by simp⟩
  refine ⟨t, e, a2, ?_⟩
  rw [List.length_map, List.length_range] at a1
  rw [a3, a1]
theorem tup_lst {n : Nat} {ds : List D} {s : Sto} (h : s[n]? = some (.lst ds)) : tupD [.ref n] s = some (.ft ds, s) := by simp [tupD, lstD, h]
def rowL (w : Wd) (G i : Nat) : List D := (List.range w.R).map fun p : Nat => .int (lev w G i (p : Int))
def table (w : Wd) (G : Nat) : List D := (List.range w.m).map fun i => .ft (rowL w G i)
theorem rowL_ints (w : Wd) (G i : Nat) : rowL w G i = ((List.range w.R).map fun p : Nat => lev w G i (p : Int)).map .int := by
  unfold rowL
  rw [List.map_map]
  rfl
theorem table_pure (w : Wd) (G : Nat) : D.pures (table w G) = true := by
  unfold table
  generalize List.range w.m = l
  induction l with
  | nil => rfl
  | cons i l ih =>
    rw [List.map_cons, D.pures, ih, D.pure, rowL_ints, pures_int]
    rfl
/-! ### greatest, least -/
theorem alikes_map {α : Type} (f : α → D) (h : ∀ a b, W.alike (f a).P (f b).P = true) (h2 : ∀ a, notNone (f a).P = true) (l : List α) : alikesB (D.Ps (l.map f)) = true := by
  unfold alikesB
  rw [Ps_map, List.all_eq_true]
  intro x hx
  obtain ⟨a, _, rfl⟩ := List.mem_map.mp hx
  rw [Bool.and_eq_true, List.all_eq_true]
  refine ⟨fun y hy => ?_, h2 a⟩
  obtain ⟨b, _, rfl⟩ := List.mem_map.mp hy
  exact h a b
theorem pures_map {α : Type} (f : α → D) (h : ∀ a, (f a).pure = true) : ∀ l : List α, D.pures (l.map f) = true
  | [] => rfl
  | a :: l => by rw [List.map_cons, D.pures, h a, pures_map f h l]; rfl
theorem nofs_map {α : Type} (f : α → D) (h : ∀ a, (f a).nof = true) : ∀ l : List α, D.nofs (l.map f) = true
  | [] => rfl
  | a :: l => by rw [List.map_cons, D.nofs, h a, nofs_map f h l]; rfl
theorem deps_map {α : Type} (f : α → D) (n : Nat) (h : ∀ a, (f a).dep ≤ n) : ∀ l : List α, D.deps (l.map f) ≤ n
  | [] => Nat.zero_le _
  | a :: l => by
    rw [List.map_cons, D.deps]
    have := h a
    have := deps_map f n h l
    omega
theorem alike_map {α : Type} (f : α → D) (h : ∀ a b, W.alike (f a).P (f b).P = true) (h2 : ∀ a, notNone (f a).P = true) (h3 : ∀ a, (f a).pure = true) (h4 : ∀ a, (f a).nof = true) (h5 : ∀ a, (f a).dep ≤ 60) {s : Sto} {x : D} {a : α} {l : List α} (e : lstD s x = some ((a :: l).map f)) :
    alikeL s x = some (f a, l.map f) := by
  unfold alikeL
  rw [e]
  have q1 := pures_map f h3 (a :: l)
  have q2 := alikes_map f h h2 (a :: l)
  have q3 := deps_map f 60 h5 (a :: l)
  have q4 := nofs_map f h4 (a :: l)
  rw [List.map_cons] at q1 q2 q3 q4
  simp only [Option.bind_some, List.map_cons, q1, q2, q4, decide_eq_true q3, Bool.and_self, if_true]
theorem max_map {α : Type} (f : α → D) (lt : α → α → Bool) (h : ∀ a b, W.alike (f a).P (f b).P = true) (h2 : ∀ a, notNone (f a).P = true) (h3 : ∀ a, (f a).pure = true) (h4 : ∀ a, (f a).nof = true) (h5 : ∀ a, (f a).dep ≤ 60) (hl : ∀ a b, W.dataLt (f a).P (f b).P = lt a b)
    {s : Sto} {x : D} {a : α} {l : List α} (e : lstD s x = some ((a :: l).map f)) : maxLD [x] s = some (f (l.foldl (fun a y => if lt a y = true then y else a) a), s) ∧ minLD [x] s = some (f (l.foldl (fun a y => if lt y a = true then y else a) a), s) := by
  have k := alike_map f h h2 h3 h4 h5 e
  have key1 : ∀ (l : List α) (a : α), maxOf (f a) (l.map f) = f (l.foldl (fun a y => if lt a y = true then y else a) a) := by
    intro l
    induction l with
    | nil => intro a; rfl
    | cons b l ih =>
      intro a
      unfold maxOf at ih ⊢
      rw [List.map_cons, List.foldl_cons, List.foldl_cons, hl]
      by_cases q : lt a b = true
      · rw [if_pos q, if_pos q]; exact ih b
      · rw [if_neg q, if_neg q]; exact ih a
  have key2 : ∀ (l : List α) (a : α), minOf (f a) (l.map f) = f (l.foldl (fun a y => if lt y a = true then y else a) a) := by
    intro l
    induction l with
    | nil => intro a; rfl
    | cons b l ih =>
      intro a
      unfold minOf at ih ⊢
      rw [List.map_cons, List.foldl_cons, List.foldl_cons, hl]
      by_cases q : lt b a = true
      · rw [if_pos q, if_pos q]; exact ih b
      · rw [if_neg q, if_neg q]; exact ih a
  constructor
  · show (alikeL s x).map _ = _
    rw [k, Option.map_some, key1]
  · show (alikeL s x).map _ = _
    rw [k, Option.map_some, key2]
theorem best_ints {s : Sto} {x : D} {a : Int} {l : List Int} (e : lstD s x = some ((a :: l).map D.int)) : maxLD [x] s = some (.int (l.foldl (fun a y => if a < y then y else a) a), s) ∧ minLD [x] s = some (.int (l.foldl (fun a y => if y < a then y else a) a), s) := by
  have h := max_map D.int (fun a b => decide (a < b)) (fun _ _ => by simp [D.P, W.alike]) (fun _ => rfl) (fun _ => rfl) (fun _ => rfl) (fun _ => by simp [D.dep]) (fun a b => by simp [D.P, W.dataLt_int]) e
  simpa using h
def pr2 (z : Int × Int) : D := .tup [.int z.1, .int z.2]
def ltII (a b : Int × Int) : Bool := decide (a.1 < b.1 ∨ (a.1 = b.1 ∧ a.2 < b.2))
theorem best_pairs {s : Sto} {x : D} {a : Int × Int} {l : List (Int × Int)} (e : lstD s x = some ((a :: l).map pr2)) : maxLD [x] s = some (pr2 (l.foldl (fun a y => if ltII a y = true then y else a) a), s) ∧ minLD [x] s = some (pr2 (l.foldl (fun a y => if ltII y a = true then y else a) a), s) :=
  max_map pr2 ltII (fun _ _ => by simp [pr2, D.P, D.Ps, W.alike, W.alikeAll]) (fun _ => rfl) (fun _ => rfl) (fun _ => rfl) (fun _ => by simp [pr2, D.dep, D.deps]) (fun a b => by simp only [pr2, D.P, D.Ps, W.dataLt_ii]; rfl) e
/-! ### the table -/
theorem cell0 {w : Wd} : ∀ s, ixD (flo w.m) (.int 0) s = some (.ft (cells w.m), s) := fun s => ix_T rfl s
theorem f_table {w : Wd} (o : w.Ok) (s : Sto) : F_gate_table [flo w.m, gates w, cl (w.m - 1)] s = some (.ft (table w (w.m - 1)), s) := by
  have hs : sizeLine = 16777216 := sizeLine_eq
  have m2 := o.m2
  have m6 := o.m6
  have r12 := o.r12
  have i0 : ∀ s, ixD (gates w) (.int 0) s = some (.int w.R, s) := fun s => ix_T rfl s
  have c1 := f_check_ends o (i := w.m - 1) (j := w.m - 1) (by omega) (by omega)
  obtain ⟨f, t, fo, k1, g1, hf, fd⟩ := f_levels o (G := w.m - 1) (by omega) s
  have inner : ∀ i, i < w.m → ∀ s', Gr t s' → ∃ s2, fCB tupD (fAc (fLc (fRng1 (fAc (fE2 ixD (fvar 1) (fC (.int 0))) fA0)) (fNm 5) fYes (fGet2 (fvar 3) (fTup (fAc (fvar 4) (fAc (fvar 5) fA0))) (fC .non)) [5]) fA0) [some (flo w.m), some (gates w), some (cl (w.m - 1)), some (.ref f), some (cl i), none] s' = some (.ft (rowL w (w.m - 1) i), s2) ∧ Gr s' s2 := by
    intro i hi s' g
    obtain ⟨u, e1, e2, e3⟩ := lc_range (fi := fRng1 (fAc (fE2 ixD (fvar 1) (fC (.int 0))) fA0)) (fg := fNm 5) (fe := fGet2 (fvar 3) (fTup (fAc (fvar 4) (fAc (fvar 5) fA0))) (fC .non)) (vs := [5]) (L := [some (flo w.m), some (gates w), some (cl (w.m - 1)), some (.ref f), some (cl i), none]) (s := s') (s0 := s') (n := w.R) (g := fun p => D.int (p : Nat)) (h := fun p => .int (lev w (w.m - 1) i (p : Int))) (c := [])
      (i_Rng1 (by simp [i0]) (by omega)) (by simp) (fun p hp => ⟨_, fun _ => rfl, fun s2 g2 => ⟨s2, by
        have fd2 := fd.grow (g.trans g2)
        have e := fd2.get o (i := i) (by omega) (p : Int)
        rw [Int.emod_eq_of_lt (by omega) (by omega)] at e
        exact i_Get2 (y := .tup [cl i, .int p]) (x := .non) rfl fd2.isd (by simp -implicitDefEqProofs [wipeL, sz2]) rfl e, Gr.refl _⟩⟩) (by omega)
    refine ⟨u, ?_, e2⟩
    rw [e_CB, e_Ac, e1]
    simp only [Option.bind_some, e_A0, tup_lst e3]
    rfl
  obtain ⟨u, e1, e2, e3⟩ := lc_range (fi := fSeqI (fE2 ixD (fvar 0) (fC (.int 0)))) (fg := fNm 4) (fe := fCB tupD (fAc (fLc (fRng1 (fAc (fE2 ixD (fvar 1) (fC (.int 0))) fA0)) (fNm 5) fYes (fGet2 (fvar 3) (fTup (fAc (fvar 4) (fAc (fvar 5) fA0))) (fC .non)) [5]) fA0)) (vs := [4]) (L := [some (flo w.m), some (gates w), some (cl (w.m - 1)), some (.ref f), none, none]) (s := t) (s0 := t) (n := w.m) (g := cl) (h := fun i => .ft (rowL w (w.m - 1) i)) (c := [])
    (by simp [fSeqI, seqI, cell0, cells]) (by simp) (fun i hi => ⟨_, fun _ => rfl, inner i hi⟩) (by omega)
  have fin := (g1.trans e2).finP (d := .ft (table w (w.m - 1))) (by simp only [D.pure]; exact table_pure _ _)
  have e4 : tupD [.ref t.length] u = some (.ft (table w (w.m - 1)), u) := tup_lst e3
  simp -implicitDefEqProofs [F_gate_table, B_gate_table, run, startL, c1, k1, e1, e4, fin]
end FL

set_option Elab.async false
set_option linter.all false
set_option maxRecDepth 100000
set_option autoImplicit false
namespace FL
open PySem PySem.Spec PyProof.Rows L2
/-! ### the fewest ticks, told -/
def told (w : Wd) (t : Int) : D := .tup [.str "comes", .int (lev w (w.m - 1) 0 t), .ft (tripL w (w.m - 1) 0 t), .ft (table w (w.m - 1))]
theorem ints_of : ∀ ds : List D, (∀ d ∈ ds, ∃ v, d = .int v) → ∃ ns : List Int, ds = ns.map .int
  | [], _ => ⟨[], rfl⟩
  | d :: ds, h => by
    obtain ⟨v, rfl⟩ := h d (List.mem_cons_self ..)
    obtain ⟨ns, e⟩ := ints_of ds fun d hd => h d (List.mem_cons_of_mem _ hd)
    exact ⟨v :: ns, by rw [e]; rfl⟩
theorem i_LVals {f : FE} {L : Loc} {s s1 : Sto} {n : Nat} {o : O} {vs : List D} (h : f L s = some (.ref n, s1)) (e : s1[n]? = some o) (v : dvalsD o = some vs) : fLVals f L s = some (.ref s1.length, s1 ++ [.lst vs]) := by
  unfold fLVals
  rw [h]
  simp only [Option.bind_some, e, v, Option.map_some]
theorem f_told {w : Wd} (o : w.Ok) {t : Int} (h0 : 0 ≤ t) (h1 : t ≤ 9999) (s : Sto) : F_gates_told [flo w.m, gates w, cl 0, cl (w.m - 1), .int t] s = some (told w t, s) := by
  have hs : sizeLine = 16777216 := sizeLine_eq
  have m2 := o.m2
  have m6 := o.m6
  have r1 := o.r1
  have r12 := o.r12
  have hR : (0 : Int) < w.R := by omega
  have i0 : ∀ s, ixD (gates w) (.int 0) s = some (.int w.R, s) := fun s => ix_T rfl s
  have c1 := f_check_ends o (i := 0) (j := w.m - 1) (by omega) (by omega)
  have c2 := fun s => f_check_tick h0 h1 s
  obtain ⟨f, u, fo, k1, g1, hf, fd⟩ := f_levels o (G := w.m - 1) (by omega) s
  have hv0 := vd_mod o (G := w.m - 1) (i := 0) (by omega) t
  have n1 : notInD (.tup [cl 0, .int (t % w.R)]) (.ref f) u = some (.bl false, u) := by
    have := (in_T fd.sf (0, t % w.R)).2
    rw [fd.ex 0 _ hv0] at this
    exact this
  obtain ⟨ns, hns⟩ := ints_of (fo.map (·.2)) (by
    intro d hd
    obtain ⟨kv, hkv, rfl⟩ := List.mem_map.mp hd
    obtain ⟨i, p, rfl, _⟩ := fd.vf kv hkv
    exact ⟨_, rfl⟩)
  have dv : dvalsD (.dT fo) = some (ns.map .int) := by rw [← hns]; rfl
  obtain ⟨a, l, rfl⟩ : ∃ a l, ns = a :: l := by
    rcases ns with _ | ⟨a, l⟩
    · have := val_mem (fd.ex 0 _ hv0)
      rcases fo with _ | ⟨kv, fo⟩
      · cases this
      · simp at hns
    · exact ⟨a, l, rfl⟩
  have v1 : ∀ L : Loc, L[5]? = some (some (.ref f)) → fLVals (fvar 5) L u = some (.ref u.length, u ++ [.lst ((a :: l).map .int)]) := fun L hL => i_LVals (v_at hL u) fd.sf dv
  have b1 := (best_ints (s := u ++ [.lst ((a :: l).map D.int)]) (x := .ref u.length) (a := a) (l := l) (by simp [lstD])).1
  obtain ⟨M, hM⟩ : ∃ M, M = l.foldl (fun a y => if a < y then y else a) a := ⟨_, rfl⟩
  rw [← hM] at b1
  obtain ⟨u1, hu1⟩ : ∃ u1, u1 = u ++ [O.lst ((a :: l).map D.int)] := ⟨_, rfl⟩
  have v1' := v1 [some (flo w.m), some (gates w), some (cl 0), some (cl (w.m - 1)), some (.int t), some (.ref f), some (.int w.R), none, none, none, none, none] rfl
  rw [← hu1] at b1 v1'
  have gu : Gr u u1 := ⟨_, hu1⟩
  have inner : ∀ i, i < w.m → ∀ s', Gr u1 s' → ∃ s2, fCB tupD (fAc (fLc (fRng1 (fAc (fvar 6) fA0)) (fNm 11) fYes (fGet2 (fvar 5) (fTup (fAc (fvar 10) (fAc (fvar 11) fA0))) (fvar 7)) [11]) fA0) [some (flo w.m), some (gates w), some (cl 0), some (cl (w.m - 1)), some (.int t), some (.ref f), some (.int w.R), some (.int M), none, none, some (cl i), none] s' = some (.ft (rowL w (w.m - 1) i), s2) ∧ Gr s' s2 := by
    intro i hi s' g
    obtain ⟨z, e1, e2, e3⟩ := lc_range (fi := fRng1 (fAc (fvar 6) fA0)) (fg := fNm 11) (fe := fGet2 (fvar 5) (fTup (fAc (fvar 10) (fAc (fvar 11) fA0))) (fvar 7)) (vs := [11]) (L := [some (flo w.m), some (gates w), some (cl 0), some (cl (w.m - 1)), some (.int t), some (.ref f), some (.int w.R), some (.int M), none, none, some (cl i), none]) (s := s') (s0 := s') (n := w.R) (g := fun p => D.int (p : Nat)) (h := fun p => .int (lev w (w.m - 1) i (p : Int))) (c := [])
      (i_Rng1 (by simp) (by omega)) (by simp) (fun p hp => ⟨_, fun _ => rfl, fun s2 g2 => ⟨s2, by
        have fd2 := fd.grow ((gu.trans g).trans g2)
        have e := fd2.get o (i := i) (by omega) (p : Int)
        rw [Int.emod_eq_of_lt (by omega) (by omega)] at e
        exact i_Get2 (y := .tup [cl i, .int p]) (x := .int M) rfl fd2.isd (by simp -implicitDefEqProofs [wipeL, sz2]) rfl e, Gr.refl _⟩⟩) (by omega)
    refine ⟨z, ?_, e2⟩
    rw [e_CB, e_Ac, e1]
    simp only [Option.bind_some, e_A0, tup_lst e3]
    rfl
  obtain ⟨u2, e1, e2, e3⟩ := lc_range (fi := fSeqI (fE2 ixD (fvar 0) (fC (.int 0)))) (fg := fNm 10) (fe := fCB tupD (fAc (fLc (fRng1 (fAc (fvar 6) fA0)) (fNm 11) fYes (fGet2 (fvar 5) (fTup (fAc (fvar 10) (fAc (fvar 11) fA0))) (fvar 7)) [11]) fA0)) (vs := [10]) (L := [some (flo w.m), some (gates w), some (cl 0), some (cl (w.m - 1)), some (.int t), some (.ref f), some (.int w.R), some (.int M), none, none, none, none]) (s := u1) (s0 := u1) (n := w.m) (g := cl) (h := fun i => .ft (rowL w (w.m - 1) i)) (c := [])
    (by simp [fSeqI, seqI, cell0, cells]) (by simp) (fun i hi => ⟨_, fun _ => rfl, inner i hi⟩) (by omega)
  have fd2 := fd.grow (gu.trans e2)
  have tr := f_trip o (G := w.m - 1) (i := 0) (t := t) (by omega) (by omega) fd2
  rw [Nat.sub_zero] at tr
  have e4 : tupD [.ref u1.length] u2 = some (.ft (table w (w.m - 1)), u2) := tup_lst e3
  have ix5 := fd2.ix o (i := 0) (by omega) t
  have fin := ((g1.trans gu).trans e2).finP (d := told w t) (by simp [told, D.pure, D.pures, table_pure, tripL_pure])
  unfold told at fin ⊢
  simp -implicitDefEqProofs [F_gates_told, B_gates_told, run, startL, c1, c2, k1, i0, sz2, o_mod hR, n1, v1', b1, e1, tr, ix5, e4, sz4, fin]
end FL

set_option Elab.async false
set_option linter.all false
set_option maxRecDepth 100000
set_option autoImplicit false
namespace FL
open PySem PySem.Spec PyProof.Rows L2
/-! ### the best of a row -/
theorem fold_best {α : Type} (lt : α → α → Bool) (as : ∀ x y, lt x y = true → lt y x = false) (nt : ∀ x y z, lt x y = false → lt y z = false → lt x z = false) : ∀ (l : List α) (a : α),
    (l.foldl (fun a y => if lt y a = true then y else a) a) ∈ a :: l ∧ ∀ z ∈ a :: l, lt z (l.foldl (fun a y => if lt y a = true then y else a) a) = false
  | [], a => ⟨List.mem_cons_self .., fun z hz => by
    simp only [List.mem_cons, List.not_mem_nil, or_false] at hz
    subst hz
    show lt z z = false
    by_cases h : lt z z = true
    · exact as _ _ h
    · simpa using h⟩
  | b :: l, a => by
    rw [List.foldl_cons]
    by_cases h : lt b a = true
    · rw [if_pos h]
      obtain ⟨h1, h2⟩ := fold_best lt as nt l b
      refine ⟨List.mem_cons_of_mem _ h1, fun z hz => ?_⟩
      rcases List.mem_cons.mp hz with rfl | hz
      · exact nt _ _ _ (as _ _ h) (h2 b (List.mem_cons_self ..))
      · exact h2 z hz
    · rw [if_neg h]
      have h' : lt b a = false := by simpa using h
      obtain ⟨h1, h2⟩ := fold_best lt as nt l a
      refine ⟨?_, fun z hz => ?_⟩
      · rcases List.mem_cons.mp h1 with h1 | h1
        · rw [h1]; exact List.mem_cons_self ..
        · exact List.mem_cons_of_mem _ (List.mem_cons_of_mem _ h1)
      · rcases List.mem_cons.mp hz with rfl | hz
        · exact h2 z (List.mem_cons_self ..)
        · rcases List.mem_cons.mp hz with rfl | hz
          · exact nt _ _ _ h' (h2 a (List.mem_cons_self ..))
          · exact h2 z (List.mem_cons_of_mem _ hz)
def minI (a : Int) (l : List Int) : Int := l.foldl (fun a y => if y < a then y else a) a
def maxI (a : Int) (l : List Int) : Int := l.foldl (fun a y => if a < y then y else a) a
theorem minI_spec (a : Int) (l : List Int) : minI a l ∈ a :: l ∧ ∀ z ∈ a :: l, minI a l ≤ z := by
  have h := fold_best (fun y a : Int => decide (y < a)) (fun x y h => by simp at h ⊢; omega) (fun x y z h h' => by simp at h h' ⊢; omega) l a
  simp only [decide_eq_true_eq, decide_eq_false_iff_not, Int.not_lt] at h
  exact h
theorem maxI_spec (a : Int) (l : List Int) : maxI a l ∈ a :: l ∧ ∀ z ∈ a :: l, z ≤ maxI a l := by
  have h := fold_best (fun y a : Int => decide (a < y)) (fun x y h => by simp at h ⊢; omega) (fun x y z h h' => by simp at h h' ⊢; omega) l a
  simp only [decide_eq_true_eq, decide_eq_false_iff_not, Int.not_lt] at h
  exact h
theorem ltII_as (x y : Int × Int) (h : ltII x y = true) : ltII y x = false := by
  simp only [ltII, decide_eq_true_eq, decide_eq_false_iff_not] at h ⊢
  omega
theorem ltII_nt (x y z : Int × Int) (h : ltII x y = false) (h' : ltII y z = false) : ltII x z = false := by
  simp only [ltII, decide_eq_false_iff_not] at h h' ⊢
  omega
theorem firstAt_spec {α : Type} [DecidableEq α] (x : α) : ∀ (l : List α) (k p : Nat), l[p]? = some x → (∀ q, q < p → l[q]? ≠ some x) → firstAt x l k = some (k + p)
  | [], k, p, h, _ => by simp at h
  | d :: l, k, p, h, hn => by
    unfold firstAt
    cases p with
    | zero =>
      simp only [List.getElem?_cons_zero, Option.some.injEq] at h
      rw [if_pos h]
      rfl
    | succ p =>
      have h0 : ¬ d = x := fun e => hn 0 (by omega) (by rw [e]; rfl)
      rw [if_neg h0, firstAt_spec x l (k + 1) p (by simpa using h) (fun q hq e => hn (q + 1) (by omega) (by simpa using e))]
      congr 1
      omega
end FL

set_option Elab.async false
set_option linter.all false
set_option maxRecDepth 100000
set_option autoImplicit false
namespace FL
open PySem PySem.Spec PyProof.Rows L2
/-! ### the phases -/
/-- the numbers of ticks from the first cell -/
def nums (w : Wd) : List Int := (List.range w.R).map fun p : Nat => lev w (w.m - 1) 0 (p : Int)
structure Best (w : Wd) (bv : Int) (bp : Nat) (wv : Int) (wp : Nat) : Prop where
  ba : (nums w)[bp]? = some bv
  bm : ∀ z ∈ nums w, bv ≤ z
  bf : ∀ q, q < bp → (nums w)[q]? ≠ some bv
  wa : (nums w)[wp]? = some wv
  wm : ∀ z ∈ nums w, z ≤ wv
  wf : ∀ q, q < wp → (nums w)[q]? ≠ some wv
def due (bv : Int) (bp : Nat) (wv : Int) (wp : Nat) : D := .tup [.tup [.int bp, .int bv], .tup [.int wp, .int wv]]
theorem range_pos {n : Nat} (h : 1 ≤ n) : ∃ l, List.range n = 0 :: l := by
  obtain ⟨k, rfl⟩ : ∃ k, n = k + 1 := ⟨n - 1, by omega⟩
  exact ⟨_, List.range_succ_eq_map⟩
theorem f_phases {w : Wd} (o : w.Ok) (s : Sto) : ∃ bv bp wv wp, Best w bv bp wv wp ∧ F_phases_told [flo w.m, gates w, cl 0, cl (w.m - 1)] s = some (due bv bp wv wp, s) := by
  have hs : sizeLine = 16777216 := sizeLine_eq
  have m2 := o.m2
  have m6 := o.m6
  have r1 := o.r1
  have r12 := o.r12
  have hR : (0 : Int) < w.R := by omega
  have i0 : ∀ s, ixD (gates w) (.int 0) s = some (.int w.R, s) := fun s => ix_T rfl s
  have c1 := f_check_ends o (i := 0) (j := w.m - 1) (by omega) (by omega)
  obtain ⟨f, u, fo, k1, g1, hf, fd⟩ := f_levels o (G := w.m - 1) (by omega) s
  have hv0 : Vd w (w.m - 1) 0 0 := ⟨Nat.zero_le _, Int.le_refl _, hR⟩
  have n1 : notInD (.tup [cl 0, .int 0]) (.ref f) u = some (.bl false, u) := by
    have := (in_T fd.sf (0, 0)).2
    rw [fd.ex 0 _ hv0] at this
    exact this
  obtain ⟨lr, hlr⟩ := range_pos r1
  -- the rows
  let F : Nat → Int × Int := fun p => (lev w (w.m - 1) 0 (p : Int), (p : Int))
  obtain ⟨u1, e1, g2, h1⟩ := lc_range (fi := fRng1 (fAc (fE2 ixD (fvar 1) (fC (.int 0))) fA0)) (fg := fNm 8) (fe := fTup (fAc (fE2 ixD (fvar 4) (fTup (fAc (fvar 2) (fAc (fvar 8) fA0)))) (fAc (fvar 8) fA0))) (vs := [8]) (L := [some (flo w.m), some (gates w), some (cl 0), some (cl (w.m - 1)), some (.ref f), none, none, none, none, none]) (s := u) (s0 := u) (n := w.R) (g := fun p => D.int (p : Nat)) (h := fun p => pr2 (F p)) (c := [])
    (i_Rng1 (by simp [i0]) (by omega)) (by simp) (fun p hp => ⟨_, fun _ => rfl, fun s2 g2 => ⟨s2, by
      have fd2 := fd.grow g2
      have e := fd2.ix o (i := 0) (by omega) (p : Int)
      rw [Int.emod_eq_of_lt (by omega) (by omega)] at e
      simp -implicitDefEqProofs [wipeL, sz2, e, pr2, F], Gr.refl _⟩⟩) (by omega)
  have h1' : lstD u1 (.ref u.length) = some ((F 0 :: lr.map F).map pr2) := by
    have : (List.range w.R).map (fun p => pr2 (F p)) = (F 0 :: lr.map F).map pr2 := by
      rw [hlr, List.map_cons, List.map_cons, List.map_map]
      rfl
    rw [← this]
    simp [lstD, h1]
  have b1 := (best_pairs h1').2
  -- the turned rows
  let H : Nat → Int × Int := fun p => (lev w (w.m - 1) 0 (p : Int), 0 - (p : Int))
  obtain ⟨u2, e2, g3, h2⟩ := lc_range (fi := fSeqI (fvar 5)) (fg := fGt 2 (fGc (fNm 9) (fGc (fNm 8) fG0))) (fe := fTup (fAc (fvar 9) (fAc (fE2 subD (fC (.int 0)) (fvar 8)) fA0))) (vs := [9, 8]) (L := [some (flo w.m), some (gates w), some (cl 0), some (cl (w.m - 1)), some (.ref f), some (.ref u.length), none, none, none, none]) (s := u1) (s0 := u1) (n := w.R) (g := fun p => pr2 (F p)) (h := fun p => pr2 (H p)) (c := [(u.length, .lst ((List.range w.R).map fun p => pr2 (F p)))])
    (by simp -implicitDefEqProofs [fSeqI, seqI, h1]) (by
      intro x hx
      simp only [List.mem_cons, List.not_mem_nil, or_false] at hx
      subst hx
      exact h1) (fun p hp => ⟨_, fun _ => rfl, fun s2 g2 => ⟨s2, by
      simp -implicitDefEqProofs [wipeL, sz2, pr2, H, F], Gr.refl _⟩⟩) (by omega)
  have h2' : lstD u2 (.ref u1.length) = some ((H 0 :: lr.map H).map pr2) := by
    have : (List.range w.R).map (fun p => pr2 (H p)) = (H 0 :: lr.map H).map pr2 := by
      rw [hlr, List.map_cons, List.map_cons, List.map_map]
      rfl
    rw [← this]
    simp [lstD, h2]
  have b2 := (best_pairs h2').1
  obtain ⟨B, hB⟩ : ∃ B, B = (lr.map F).foldl (fun a y => if ltII y a = true then y else a) (F 0) := ⟨_, rfl⟩
  obtain ⟨W, hW⟩ : ∃ W, W = (lr.map H).foldl (fun a y => if ltII a y = true then y else a) (H 0) := ⟨_, rfl⟩
  rw [← hB] at b1
  rw [← hW] at b2
  have sB := fold_best ltII ltII_as ltII_nt (lr.map F) (F 0)
  have sW := fold_best (fun y a => ltII a y) (fun x y h => ltII_as _ _ h) (fun x y z h h' => ltII_nt _ _ _ h' h) (lr.map H) (H 0)
  rw [← hB] at sB
  rw [← hW] at sW
  have mem : ∀ {K : Nat → Int × Int} {z : Int × Int}, z ∈ K 0 :: lr.map K ↔ ∃ p, p < w.R ∧ z = K p := by
    intro K z
    have e : K 0 :: lr.map K = (List.range w.R).map K := by rw [hlr]; rfl
    rw [e, List.mem_map]
    constructor
    · rintro ⟨p, hp, rfl⟩
      exact ⟨p, List.mem_range.mp hp, rfl⟩
    · rintro ⟨p, hp, rfl⟩
      exact ⟨p, List.mem_range.mpr hp, rfl⟩
  obtain ⟨bp, hbp, hBe⟩ := mem.mp sB.1
  obtain ⟨wp, hwp, hWe⟩ := mem.mp sW.1
  have at' : ∀ {p : Nat}, p < w.R → (nums w)[p]? = some (lev w (w.m - 1) 0 (p : Int)) := fun {p} hp => by
    unfold nums
    rw [List.getElem?_map, List.getElem?_range hp]
    rfl
  refine ⟨lev w (w.m - 1) 0 bp, bp, lev w (w.m - 1) 0 wp, wp, ⟨at' hbp, ?_, ?_, at' hwp, ?_, ?_⟩, ?_⟩
  · intro z hz
    obtain ⟨p, hp, rfl⟩ := List.mem_map.mp hz
    have := sB.2 (F p) (mem.mpr ⟨p, List.mem_range.mp hp, rfl⟩)
    rw [hBe] at this
    simp only [ltII, F, decide_eq_false_iff_not] at this
    omega
  · intro q hq e
    rw [at' (by omega)] at e
    have := sB.2 (F q) (mem.mpr ⟨q, by omega, rfl⟩)
    rw [hBe] at this
    simp only [ltII, F, decide_eq_false_iff_not] at this
    injection e with e
    omega
  · intro z hz
    obtain ⟨p, hp, rfl⟩ := List.mem_map.mp hz
    have := sW.2 (H p) (mem.mpr ⟨p, List.mem_range.mp hp, rfl⟩)
    rw [hWe] at this
    simp only [ltII, H, decide_eq_false_iff_not] at this
    omega
  · intro q hq e
    rw [at' (by omega)] at e
    have := sW.2 (H q) (mem.mpr ⟨q, by omega, rfl⟩)
    rw [hWe] at this
    simp only [ltII, H, decide_eq_false_iff_not] at this
    injection e with e
    omega
  · have eB : pr2 B = .tup [.int (lev w (w.m - 1) 0 bp), .int bp] := by rw [hBe]; rfl
    have eW : pr2 W = .tup [.int (lev w (w.m - 1) 0 wp), .int (0 - (wp : Int))] := by rw [hWe]; rfl
    rw [eB] at b1
    rw [eW] at b2
    have x1 : ∀ (a b : Int) s, ixD (.tup [.int a, .int b]) (.int 0) s = some (.int a, s) := fun a b s => ix_T rfl s
    have x2 : ∀ (a b : Int) s, ixD (.tup [.int a, .int b]) (.int 1) s = some (.int b, s) := fun a b s => ix_T rfl s
    have hww : (0 : Int) - (0 - (wp : Int)) = wp := by omega
    have fin := ((g1.trans g2).trans g3).finP (d := due (lev w (w.m - 1) 0 bp) bp (lev w (w.m - 1) 0 wp) wp) rfl
    unfold due at fin ⊢
    simp -implicitDefEqProofs [F_phases_told, B_phases_told, run, startL, c1, k1, sz2, n1, e1, b1, e2, b2, x1, x2, fin]
end FL

set_option Elab.async false
set_option linter.all false
set_option maxRecDepth 100000
set_option autoImplicit false
namespace FL
open PySem PySem.Spec PyProof.Rows L2
/-! ### levels are judged -/
theorem atI_nn {α : Type} {ds : List α} {n : Nat} {d : α} (h : ds[n]? = some d) : L2.atI ds (n : Int) = some d := by
  obtain ⟨this, e⟩ := List.getElem?_eq_some_iff.mp h
  unfold L2.atI L2.ixN
  simp [this, e]
theorem row_ix {w : Wd} (o : w.Ok) (G i : Nat) (t : Int) (s : Sto) : ixD (.ft (rowL w G i)) (.int (t % w.R)) s = some (.int (lev w G i t), s) := by
  have r1 := o.r1
  have h0 := Int.emod_nonneg t (b := (w.R : Int)) (by omega)
  have h1 := Int.emod_lt_of_pos t (b := (w.R : Int)) (by omega)
  refine ix_F ?_ s
  have e : t % (w.R : Int) = ((t % (w.R : Int)).toNat : Nat) := by omega
  have e2 : (rowL w G i)[(t % (w.R : Int)).toNat]? = some (.int (lev w G i t)) := by
    unfold rowL
    rw [List.getElem?_map, List.getElem?_range (by omega)]
    show some (D.int (lev w G i ((t % (w.R : Int)).toNat : Nat))) = _
    rw [← e, lev_mod o]
  have e3 := atI_nn e2
  rw [← e] at e3
  exact e3
theorem row_ixN {w : Wd} (o : w.Ok) (G i : Nat) {p : Nat} (hp : p < w.R) (s : Sto) : ixD (.ft (rowL w G i)) (.int (p : Int)) s = some (.int (lev w G i (p : Int)), s) := by
  have := row_ix o G i (p : Int) s
  rwa [Int.emod_eq_of_lt (by omega) (by omega)] at this
theorem merge_app : ∀ (l acc : List (Key × D)), ((acc ++ l).map (·.1)).Nodup → mergeD acc l = acc ++ l
  | [], acc, _ => by simp [mergeD]
  | a :: l, acc, h => by
    have e : mergeD acc (a :: l) = mergeD (putD acc a.1 a.2) l := rfl
    have hn : hasD acc a.1 = false := by
      unfold hasD
      rcases hv : valD acc a.1 with _ | d
      · rfl
      · have hm := val_mem hv
        rw [List.map_append, List.nodup_append] at h
        exact absurd rfl (h.2.2 a.1 (List.mem_map.mpr ⟨_, hm, rfl⟩) a.1 (by simp))
    have e2 : putD acc a.1 a.2 = acc ++ [a] := by
      unfold putD
      rw [if_neg (by rw [hn]; simp)]
    rw [e, e2, merge_app l (acc ++ [a]) (by simpa using h)]
    simp
def rowsD (w : Wd) (G : Nat) : List (Key × D) := (List.range w.m).map fun i => (.inr (nm i), .ft (rowL w G i))
theorem rowsD_nodup {w : Wd} (o : w.Ok) (G : Nat) : ((rowsD w G).map (·.1)).Nodup := by
  have m6 := o.m6
  unfold rowsD
  rw [List.map_map]
  refine List.pairwise_map.mpr (List.Pairwise.imp_of_mem ?_ List.nodup_range)
  intro a b ha hb hab e
  rw [List.mem_range] at ha hb
  simp only [Function.comp_apply] at e
  injection e with e
  exact hab (nm_inj (by omega) (by omega) e)
theorem rowsD_val {w : Wd} (o : w.Ok) (G : Nat) {i : Nat} (hi : i < w.m) : valD (rowsD w G) (.inr (nm i)) = some (.ft (rowL w G i)) :=
  mem_val (rowsD_nodup o G) (List.mem_map.mpr ⟨i, List.mem_range.mpr hi, rfl⟩)
theorem pairsK_rows (w : Wd) (G : Nat) : ∀ l : List Nat, pairsK (l.map fun i => D.tup [cl i, .ft (rowL w G i)]) = some (l.map fun i => ((.inr (nm i) : Key), D.ft (rowL w G i)))
  | [] => rfl
  | i :: l => by
    have e : pairsK ((i :: l).map fun i => D.tup [cl i, .ft (rowL w G i)]) = (pairsK (l.map fun i => D.tup [cl i, .ft (rowL w G i)])).map fun t => ((.inr (nm i) : Key), D.ft (rowL w G i)) :: t := rfl
    rw [e, pairsK_rows w G l]
    rfl
theorem zip_rows (w : Wd) (G : Nat) : zipT (cells w.m) (table w G) = (List.range w.m).map fun i => D.tup [cl i, .ft (rowL w G i)] := by
  unfold zipT cells table
  generalize List.range w.m = l
  induction l with
  | nil => rfl
  | cons i l ih => rw [List.map_cons, List.map_cons, List.map_cons, List.zipWith_cons_cons, ih]
theorem rows_ix {w : Wd} (o : w.Ok) {G i r : Nat} (hi : i < w.m) {s : Sto} (h : s[r]? = some (.dK (rowsD w G))) : ixD (.ref r) (cl i) s = some (.ft (rowL w G i), s) := ix_ref (fun ds => by rw [h]; simp) (by
  have : dget s r (cl i) = some (valD (rowsD w G) (.inr (nm i))) := by
    unfold dget
    rw [h]
    rfl
  rw [this, rowsD_val o G hi])
/-- no item: the loop's end, all items being passed over -/
theorem loop_same {fg : FG} {fb : FS} {c : List (Nat × O)} {base : Sto} (P : Loc → Prop) (hc : ∀ x ∈ c, base[x.1]? = some x.2) : ∀ (items : List D) (L : Loc) (s : Sto),
    (∀ d ∈ items, ∀ L s, P L → Gr base s → ∃ L1 s1 L2 s2, fg d L s = some (L1, s1) ∧ fb L1 s1 = some (.nx, L2, s2) ∧ P L2 ∧ Gr base s2) → P L → Gr base s → ∃ L' s', fLoop fg fb c items L s = some (.nx, L', s') ∧ P L' ∧ Gr base s'
  | [], L, s, _, hP, g => ⟨L, s, by rw [fLoop, if_pos (stands_of fun x hx => g.at (hc x hx))], hP, g⟩
  | d :: r, L, s, h, hP, g => by
    obtain ⟨L1, s1, L2, s2, e1, e2, hP2, g2⟩ := h d (List.mem_cons_self ..) L s hP g
    obtain ⟨L', s', e3, hP', g'⟩ := loop_same P hc r L2 s2 (fun d hd => h d (List.mem_cons_of_mem _ hd)) hP2 g2
    refine ⟨L', s', ?_, hP', g'⟩
    rw [fLoop, if_pos (stands_of fun x hx => g.at (hc x hx)), e1]
    simp only [Option.bind_some, e2]
    exact e3
theorem for_same {fi : FI} {fg : FG} {fb : FS} {items : List D} {c : List (Nat × O)} {L : Loc} {s base : Sto} (h : fi L s = some (⟨items, c⟩, base)) (P : Loc → Prop) (hc : ∀ x ∈ c, base[x.1]? = some x.2)
    (st : ∀ d ∈ items, ∀ L s, P L → Gr base s → ∃ L1 s1 L2 s2, fg d L s = some (L1, s1) ∧ fb L1 s1 = some (.nx, L2, s2) ∧ P L2 ∧ Gr base s2) (hP : P L) : ∃ L' s', fFor fi fg fb L s = some (.nx, L', s') ∧ P L' ∧ Gr base s' := by
  obtain ⟨L', s', e, h1, h2⟩ := loop_same P hc items L base st hP (Gr.refl _)
  refine ⟨L', s', ?_, h1, h2⟩
  unfold fFor
  rw [h]
  exact e
theorem if_no {c : FT} {f : FS} {L : Loc} {s s' : Sto} (h : c L s = some (false, s')) : fIfS c f fNx L s = some (.nx, L, s') := by
  unfold fIfS
  rw [h]
  rfl
end FL

set_option Elab.async false
set_option linter.all false
set_option maxRecDepth 100000
set_option autoImplicit false
namespace FL
open PySem PySem.Spec PyProof.Rows L2
theorem gt_no {a b : Int} (h : a ≤ b) (s : Sto) : gtD (.int a) (.int b) s = some (.bl false, s) := by
  rw [o_gt, decide_eq_false (by omega)]
theorem any_no {f : FE} {L : Loc} {s t : Sto} {n : Nat} {b : Bool} (h : f L s = some (.ref n, t)) (h2 : anyD [.ref n] t = some (.bl b, t)) : fTb (fCB anyD (fAc f fA0)) L s = some (b, t) := by
  unfold fTb fCB fAc
  rw [h]
  simp only [Option.bind_some, e_A0, h2]
theorem all_yes {f : FE} {L : Loc} {s t : Sto} {n : Nat} {b : Bool} (h : f L s = some (.ref n, t)) (h2 : allD [.ref n] t = some (.bl b, t)) : fTb (fCB allD (fAc f fA0)) L s = some (b, t) := by
  unfold fTb fCB fAc
  rw [h]
  simp only [Option.bind_some, e_A0, h2]
def alL (w : Wd) (r k : Nat) (x7 x8 x9 x10 x11 x12 : Option D) : Loc :=
  [some (flo w.m), some (gates w), some (cl (w.m - 1)), some (.ft (table w (w.m - 1))), some (.int w.R), some (.ref r), some (.ref k), x7, x8, x9, x10, x11, x12]
def fA2 : FS := fIfS (fNot (fTb (fCall F_is_tuple_of (fAc (fvar 3) (fAc (fCB lenD (fAc (fE2 ixD (fvar 0) (fC (.int 0))) fA0)) fA0))))) (fRt (fC (.bl false))) fNx
def fA3 : FS := fIfS (fNot (fTb (fCB allD (fAc (fLc (fSeqI (fvar 3)) (fNm 8) fYes (fAndV (fCall F_are_between (fAc (fvar 8) (fAc (fC (.int 0)) (fAc (fC (.int 100000)) fA0)))) (fE2 eqD (fCB lenD (fAc (fvar 8) fA0)) (fvar 4))) [8]) fA0)))) (fRt (fC (.bl false))) fNx
def fA4 : FS := fAs (fTup (fAc (fCB dictKD (fAc (fLZip (fAc (fE2 ixD (fvar 0) (fC (.int 0))) (fAc (fvar 3) fA0))) fA0)) (fAc (fCall F_known_gates (fAc (fvar 1) fA0)) fA0))) (fGt 2 (fGc (fNm 5) (fGc (fNm 6) fG0)))
def fA5 : FS := fIfS (fTb (fCB anyD (fAc (fLc (fSeqI (fE2 ixD (fvar 5) (fvar 2))) (fNm 12) fYes (fE2 gtD (fvar 12) (fC (.int 0))) [12]) fA0))) (fRt (fC (.bl false))) fNx
def fA6b : FS := fIfS (fTb (fCB anyD (fAc (fLc (fRng1 (fAc (fvar 4) fA0)) (fNm 11) fYes (fE2 gtD (fE2 ixD (fvar 8) (fvar 11)) (fE2 addD (fE2 ixD (fvar 8) (fE2 modD (fE2 addD (fvar 11) (fC (.int 1))) (fvar 4))) (fC (.int 1)))) [11]) fA0))) (fRt (fC (.bl false))) fNx
def fA6 : FS := fLk 5 (fFor (fItems (fvar 5)) (fGt 2 (fGc (fNm 7) (fGc (fNm 8) fG0))) fA6b)
def fA7i : FS := fFor (fSeqI (fLc (fRng1 (fAc (fvar 4) fA0)) (fNm 11) (fTb (fCall F_is_open (fAc (fvar 6) (fAc (fvar 9) (fAc (fvar 11) fA0))))) (fvar 11) [11])) (fNm 11)
    (fIfS (fTb (fE2 gtD (fE2 ixD (fE2 ixD (fvar 5) (fE2 ixD (fvar 9) (fC (.int 0)))) (fvar 11)) (fE2 addD (fE2 ixD (fE2 ixD (fvar 5) (fE2 ixD (fvar 9) (fC (.int 1)))) (fE2 modD (fE2 addD (fvar 11) (fvar 10)) (fvar 4))) (fvar 10)))) (fRt (fC (.bl false))) fNx)
def fA7b : FS := fSq (fAs (fCall F_takes_of (fAc (fvar 6) (fAc (fvar 9) fA0))) (fNm 10)) fA7i
def fA7 : FS := fFor (fSeqI (fE2 ixD (fvar 0) (fC (.int 1)))) (fNm 9) fA7b
theorem B_are_levels_eq : B_are_levels = fSq (fAs (fE2 ixD (fvar 1) (fC (.int 0))) (fNm 4)) (fSq fA2 (fSq fA3 (fSq fA4 (fSq fA5 (fSq fA6 (fSq fA7 (fRt (fC (.bl true))))))))) := rfl
section
variable {w : Wd}
theorem a6_ok (o : w.Ok) {r k : Nat} {s : Sto} (hr : s[r]? = some (.dK (rowsD w (w.m - 1)))) (x7 x8 x9 x10 x11 x12 : Option D) :
    ∃ t y7 y8, fA6 (alL w r k x7 x8 x9 x10 x11 x12) s = some (.nx, alL w r k y7 y8 x9 x10 x11 x12, t) ∧ Gr s t := by
  have r1 := o.r1
  have r12 := o.r12
  have hR : (0 : Int) < w.R := by omega
  have rl := (List.getElem?_eq_some_iff.mp hr).1
  obtain ⟨s1, hs1⟩ : ∃ s1, s1 = s.set r (.lk (.dK (rowsD w (w.m - 1)))) := ⟨_, rfl⟩
  have hr1 : s1[r]? = some (.lk (.dK (rowsD w (w.m - 1)))) := by rw [hs1, List.getElem?_set_self rl]
  have eI : fItems (fvar 5) (alL w r k x7 x8 x9 x10 x11 x12) s1 = some (⟨(List.range w.m).map fun i => D.tup [cl i, .ft (rowL w (w.m - 1) i)], []⟩, s1) := by
    have e : itemsT (rowsD w (w.m - 1)) = (List.range w.m).map fun i => D.tup [cl i, .ft (rowL w (w.m - 1) i)] := by
      unfold itemsT rowsD
      rw [List.map_map]
      rfl
    unfold fItems
    rw [v_at (i := 5) (d := .ref r) rfl]
    simp only [Option.bind_some, hr1, e]
  obtain ⟨L', t, e1, ⟨y7, y8, hL⟩, g⟩ := for_same (fg := fGt 2 (fGc (fNm 7) (fGc (fNm 8) fG0))) (fb := fA6b) eI (fun L => ∃ y7 y8, L = alL w r k y7 y8 x9 x10 x11 x12) (by simp) (by
    intro d hd L s' ⟨y7, y8, hL⟩ g
    subst hL
    obtain ⟨i, hi, rfl⟩ := List.mem_map.mp hd
    obtain ⟨t, n, q1, q2, q3⟩ := anyc (fi := fRng1 (fAc (fvar 4) fA0)) (fg := fNm 11) (fe := fE2 gtD (fE2 ixD (fvar 8) (fvar 11)) (fE2 addD (fE2 ixD (fvar 8) (fE2 modD (fE2 addD (fvar 11) (fC (.int 1))) (fvar 4))) (fC (.int 1)))) (vs := [11]) (L := alL w r k (some (cl i)) (some (.ft (rowL w (w.m - 1) i))) x9 x10 x11 x12) (s := s') (items := (List.range w.R).map fun p => D.int (p : Nat)) (fun _ => false)
      (i_Rng1 rfl (by omega)) (fun d hd => ⟨_, fun _ => rfl, fun s' g => ⟨s', by
        obtain ⟨p, hp, rfl⟩ := List.mem_map.mp hd
        rw [List.mem_range] at hp
        have a1 := row_ixN o (w.m - 1) i hp s'
        have a2 := row_ix o (w.m - 1) i ((p : Int) + 1) s'
        have a3 := gt_no (lev_le o (w.m - 1) i (p : Int)) s'
        rw [Int.add_comm 1] at a3
        simp -implicitDefEqProofs [wipeL, alL, a1, o_mod hR, a2]
        simp at a3
        omega, Gr.refl _⟩⟩) (sz _ (by simp; omega))
    have hf : ((List.range w.R).map fun p => D.int (p : Nat)).any (fun _ => false) = false := by simp
    rw [hf] at q2
    refine ⟨_, s', _, t, rfl, if_no ?_, ⟨some (cl i), some (.ft (rowL w (w.m - 1) i)), rfl⟩, g.trans q3⟩
    exact any_no q1 q2) ⟨x7, x8, rfl⟩
  subst hL
  refine ⟨t.set r (.dK (rowsD w (w.m - 1))), y7, y8, ?_, unlock_gr hr (by rw [← hs1]; exact g)⟩
  have e2 : lkAt 5 (alL w r k x7 x8 x9 x10 x11 x12) s = some (r, .dK (rowsD w (w.m - 1))) := by
    unfold lkAt alL
    simp only [List.getElem?_cons_succ, List.getElem?_cons_zero, hr]
    rfl
  unfold fA6 fLk
  rw [e2]
  simp only [Option.bind_some]
  rw [← hs1, e1]
  rfl
theorem a7_ok (o : w.Ok) {r k : Nat} {s : Sto} (hr : s[r]? = some (.dK (rowsD w (w.m - 1)))) (hk : Kn w k s) (hkl : k < s.length) (x7 x8 x9 x10 x11 x12 : Option D) :
    ∃ t y9 y10 y11, fA7 (alL w r k x7 x8 x9 x10 x11 x12) s = some (.nx, alL w r k x7 x8 y9 y10 y11 x12, t) ∧ Gr s t := by
  have m6 := o.m6
  have r1 := o.r1
  have r12 := o.r12
  have hR : (0 : Int) < w.R := by omega
  have i1 : ∀ s, ixD (flo w.m) (.int 1) s = some (.ft (ways w.m), s) := fun s => ix_T rfl s
  have eI : fSeqI (fE2 ixD (fvar 0) (fC (.int 1))) (alL w r k x7 x8 x9 x10 x11 x12) s = some (⟨ways w.m, []⟩, s) := by
    simp -implicitDefEqProofs [fSeqI, seqI, alL, i1]
  obtain ⟨L', t, e1, ⟨y9, y10, y11, hL⟩, g⟩ := for_same (fg := fNm 9) (fb := fA7b) eI (fun L => ∃ y9 y10 y11, L = alL w r k x7 x8 y9 y10 y11 x12) (by simp) (by
    intro d hd L s' ⟨y9, y10, y11, hL⟩ g
    subst hL
    obtain ⟨i, hi, rfl⟩ := wmem hd
    have c1 := f_takes o (hk.grow hkl g) hi
    have p1 : fAs (fCall F_takes_of (fAc (fvar 6) (fAc (fvar 9) fA0))) (fNm 10) (alL w r k x7 x8 (some (wy i)) y10 y11 x12) s' = some (.nx, alL w r k x7 x8 (some (wy i)) (some (.int (tk w i))) y11 x12, s') := by
      simp -implicitDefEqProofs [alL, c1]
    -- the open phases
    obtain ⟨u, q1, q2, q3⟩ := lc_eval (fi := fRng1 (fAc (fvar 4) fA0)) (fg := fNm 11) (ft := fTb (fCall F_is_open (fAc (fvar 6) (fAc (fvar 9) (fAc (fvar 11) fA0))))) (fe := fvar 11) (vs := [11]) (L := alL w r k x7 x8 (some (wy i)) (some (.int (tk w i))) y11 x12) (s := s') (s0 := s') (items := (List.range w.R).map fun p => D.int (p : Nat)) (chk := [])
      (fun d => opn w i d.toI) id (i_Rng1 rfl (by omega)) (by simp) (fun d hd => ⟨⟨_, fun _ => rfl, fun s2 g2 => ⟨s2, by
        obtain ⟨p, hp, rfl⟩ := List.mem_map.mp hd
        rw [List.mem_range] at hp
        have := f_open o (hk.grow hkl (g.trans g2)) hi (p := (p : Int)) (t := (p : Int)) (Int.emod_eq_of_lt (by omega) (by omega)).symm
        simp -implicitDefEqProofs [wipeL, alL, this], Gr.refl _, fun _ => ⟨s2, by
        obtain ⟨p, hp, rfl⟩ := List.mem_map.mp hd
        simp -implicitDefEqProofs [wipeL, alL], Gr.refl _⟩⟩⟩⟩) (sz _ (by simp; omega))
    have eI2 : fSeqI (fLc (fRng1 (fAc (fvar 4) fA0)) (fNm 11) (fTb (fCall F_is_open (fAc (fvar 6) (fAc (fvar 9) (fAc (fvar 11) fA0))))) (fvar 11) [11]) (alL w r k x7 x8 (some (wy i)) (some (.int (tk w i))) y11 x12) s' = some (⟨(((List.range w.R).map fun p => D.int (p : Nat)).filter fun d => opn w i d.toI).map id, [(s'.length, .lst ((((List.range w.R).map fun p => D.int (p : Nat)).filter fun d => opn w i d.toI).map id))]⟩, u) := by
      unfold fSeqI
      rw [q1]
      simp only [Option.bind_some]
      have : seqI u (.ref s'.length) = some ⟨(((List.range w.R).map fun p => D.int (p : Nat)).filter fun d => opn w i d.toI).map id, [(s'.length, .lst ((((List.range w.R).map fun p => D.int (p : Nat)).filter fun d => opn w i d.toI).map id))]⟩ := by
        unfold seqI
        simp only [q3]
      rw [this]
      rfl
    obtain ⟨L2, u2, f1, ⟨z11, hL2⟩, g2⟩ := for_same (fg := fNm 11) (fb := fIfS (fTb (fE2 gtD (fE2 ixD (fE2 ixD (fvar 5) (fE2 ixD (fvar 9) (fC (.int 0)))) (fvar 11)) (fE2 addD (fE2 ixD (fE2 ixD (fvar 5) (fE2 ixD (fvar 9) (fC (.int 1)))) (fE2 modD (fE2 addD (fvar 11) (fvar 10)) (fvar 4))) (fvar 10)))) (fRt (fC (.bl false))) fNx) eI2
      (fun L => ∃ z11, L = alL w r k x7 x8 (some (wy i)) (some (.int (tk w i))) z11 x12) (by
        intro x hx
        simp only [List.mem_cons, List.not_mem_nil, or_false] at hx
        subst hx
        exact q3) (by
        intro d hd L s2 ⟨z11, hL⟩ g2
        subst hL
        rw [List.map_id, List.mem_filter] at hd
        obtain ⟨hd, hop⟩ := hd
        obtain ⟨p, hp, rfl⟩ := List.mem_map.mp hd
        rw [List.mem_range] at hp
        have hop' : opn w i (p : Int) = true := hop
        have rr := ((g.trans q2).trans g2).at hr
        have a1 := rows_ix o (i := i) (by omega) rr
        have a2 := rows_ix o (i := i + 1) (by omega) rr
        have a3 : ∀ s, ixD (wy i) (.int 0) s = some (cl i, s) := fun s => ix_T rfl s
        have a4 : ∀ s, ixD (wy i) (.int 1) s = some (cl (i + 1), s) := fun s => ix_T rfl s
        have a5 := row_ixN o (w.m - 1) i hp s2
        have a6 := row_ix o (w.m - 1) (i + 1) ((p : Int) + tk w i) s2
        have a7 : ¬ lev w (w.m - 1) (i + 1) ((p : Int) + tk w i) + tk w i < lev w (w.m - 1) i (p : Int) := by
          rw [lev_open o (by omega) hop']
          omega
        refine ⟨_, s2, _, s2, rfl, if_no ?_, ⟨some (.int (p : Int)), rfl⟩, g2⟩
        simp -implicitDefEqProofs [alL, a1, a2, a3, a4, a5, o_mod hR, a6, a7]) ⟨y11, rfl⟩
    subst hL2
    exact ⟨_, s', _, u2, rfl, sq_nx p1 f1, ⟨_, _, _, rfl⟩, (g.trans q2).trans g2⟩) ⟨x9, x10, x11, rfl⟩
  subst hL
  exact ⟨t, y9, y10, y11, e1, g⟩
end
end FL

set_option Elab.async false
set_option linter.all false
set_option maxRecDepth 100000
set_option autoImplicit false
namespace FL
open PySem PySem.Spec PyProof.Rows L2
section
variable {w : Wd}
theorem rowL_len (w : Wd) (G i : Nat) : (rowL w G i).length = w.R := by simp [rowL]
theorem table_len (w : Wd) (G : Nat) : (table w G).length = w.m := by simp [table]
theorem cells_len (m : Nat) : (cells m).length = m := by simp [cells]
theorem f_are_levels (o : w.Ok) (s : Sto) : F_are_levels [flo w.m, gates w, cl (w.m - 1), .ft (table w (w.m - 1))] s = some (.bl true, s) := by
  have m2 := o.m2
  have m6 := o.m6
  have r1 := o.r1
  have r12 := o.r12
  have hR : (0 : Int) < w.R := by omega
  have i0 : ∀ s, ixD (gates w) (.int 0) s = some (.int w.R, s) := fun s => ix_T rfl s
  let L0 : Loc := [some (flo w.m), some (gates w), some (cl (w.m - 1)), some (.ft (table w (w.m - 1))), none, none, none, none, none, none, none, none, none]
  let L1 : Loc := [some (flo w.m), some (gates w), some (cl (w.m - 1)), some (.ft (table w (w.m - 1))), some (.int w.R), none, none, none, none, none, none, none, none]
  have p1 : fAs (fE2 ixD (fvar 1) (fC (.int 0))) (fNm 4) L0 s = some (.nx, L1, s) := by
    simp -implicitDefEqProofs [L0, L1, i0]
  have p2 : fA2 L1 s = some (.nx, L1, s) := if_no (by
    have e := f_is_tuple_ofF (table w (w.m - 1)) ((cells w.m).length : Int) s
    rw [table_len, cells_len, decide_eq_true rfl] at e
    simp -implicitDefEqProofs [L1, cell0, cells_len, e])
  -- each row
  obtain ⟨t1, n1, a1, a2, a3⟩ := allc (fi := fSeqI (fvar 3)) (fg := fNm 8) (fe := fAndV (fCall F_are_between (fAc (fvar 8) (fAc (fC (.int 0)) (fAc (fC (.int 100000)) fA0)))) (fE2 eqD (fCB lenD (fAc (fvar 8) fA0)) (fvar 4))) (vs := [8]) (L := L1) (s := s) (items := table w (w.m - 1)) (fun _ => true)
    (by simp -implicitDefEqProofs [L1, fSeqI, seqI]) (fun d hd => ⟨_, fun _ => rfl, fun s' g => ⟨s', by
      obtain ⟨i, hi, rfl⟩ := List.mem_map.mp hd
      rw [List.mem_range] at hi
      have e := f_are_between ((List.range w.R).map fun p : Nat => lev w (w.m - 1) i (p : Int)) (sz _ (by simp; omega)) 0 100000 s'
      have eb : (((List.range w.R).map fun p : Nat => lev w (w.m - 1) i (p : Int)).all fun n => decide ((0 : Int) ≤ n) && decide (n ≤ 100000)) = true := by
        rw [List.all_eq_true]
        intro x hx
        obtain ⟨p, _, rfl⟩ := List.mem_map.mp hx
        have h1 := lev_nn o (w.m - 1) i (p : Int)
        have h2 := (lev_bd o (w.m - 1) i (p : Int)).2
        have h3 : ((w.m - 1 - i : Nat) : Int) ≤ 5 := by omega
        rw [decide_eq_true h1, decide_eq_true (by omega)]
        rfl
      rw [eb, ← rowL_ints] at e
      simp -implicitDefEqProofs [wipeL, L1, e, rowL_len], Gr.refl _⟩⟩) (sz _ (by rw [table_len]; omega))
  have ht : (table w (w.m - 1)).all (fun _ => true) = true := by simp
  rw [ht] at a2
  have p3 : fA3 L1 s = some (.nx, L1, t1) := if_no (by
    rw [e_Not, all_yes a1 a2]
    rfl)
  -- the dict of rows
  have z1 : fLZip (fAc (fE2 ixD (fvar 0) (fC (.int 0))) (fAc (fvar 3) fA0)) L1 t1 = some (.ref t1.length, t1 ++ [.lst ((List.range w.m).map fun i => D.tup [cl i, .ft (rowL w (w.m - 1) i)])]) := by
    unfold fLZip
    simp -implicitDefEqProofs [L1, cell0, zipF, seqK, zip_rows]
  obtain ⟨t2, ht2⟩ : ∃ t2, t2 = t1 ++ [O.lst ((List.range w.m).map fun i => D.tup [cl i, .ft (rowL w (w.m - 1) i)])] := ⟨_, rfl⟩
  rw [← ht2] at z1
  have z2 : dictKD [.ref t1.length] t2 = some (.ref t2.length, t2 ++ [.dK (rowsD w (w.m - 1))]) := by
    have e : lstD t2 (.ref t1.length) = some ((List.range w.m).map fun i => D.tup [cl i, .ft (rowL w (w.m - 1) i)]) := by rw [ht2]; simp [lstD]
    have e2 : mergeD [] (rowsD w (w.m - 1)) = rowsD w (w.m - 1) := by
      rw [merge_app _ _ (by simpa using rowsD_nodup o (w.m - 1)), List.nil_append]
    unfold dictKD
    simp only [e, Option.bind_some, pairsK_rows, Option.map_some]
    show some (D.ref t2.length, t2 ++ [O.dK (mergeD [] (rowsD w (w.m - 1)))]) = _
    rw [e2]
  obtain ⟨t3, ht3⟩ : ∃ t3, t3 = t2 ++ [O.dK (rowsD w (w.m - 1))] := ⟨_, rfl⟩
  rw [← ht3] at z2
  obtain ⟨k, t4, k1, g4, hk, hd⟩ := f_known o t3
  have hkl : k < t4.length := (List.getElem?_eq_some_iff.mp hd).1
  have hr4 : t4[t2.length]? = some (.dK (rowsD w (w.m - 1))) := g4.at (by rw [ht3]; simp)
  have p4 : fA4 L1 t1 = some (.nx, alL w t2.length k none none none none none none, t4) := by
    have e : fTup (fAc (fCB dictKD (fAc (fLZip (fAc (fE2 ixD (fvar 0) (fC (.int 0))) (fAc (fvar 3) fA0))) fA0)) (fAc (fCall F_known_gates (fAc (fvar 1) fA0)) fA0)) L1 t1 = some (.tup [.ref t2.length, .ref k], t4) := by
      rw [e_Tup, e_Ac, e_CB, e_Ac, z1]
      simp -implicitDefEqProofs [z2, k1, sz2, L1]
    unfold fA4 fAs
    rw [e]
    rfl
  have hkn : Kn w k t4 := by
    unfold Kn
    rw [hd]
    rfl
  -- the goal's own levels
  obtain ⟨t5, n5, b1, b2, b3⟩ := anyc (fi := fSeqI (fE2 ixD (fvar 5) (fvar 2))) (fg := fNm 12) (fe := fE2 gtD (fvar 12) (fC (.int 0))) (vs := [12]) (L := alL w t2.length k none none none none none none) (s := t4) (items := rowL w (w.m - 1) (w.m - 1)) (fun _ => false)
    (by simp -implicitDefEqProofs [alL, fSeqI, rows_ix o (show w.m - 1 < w.m by omega) hr4, seqI]) (fun d hd => ⟨_, fun _ => rfl, fun s' g => ⟨s', by
      obtain ⟨p, hp, rfl⟩ := List.mem_map.mp hd
      simp -implicitDefEqProofs [wipeL, alL, lev_goal], Gr.refl _⟩⟩) (sz _ (by rw [rowL_len]; omega))
  have hf : (rowL w (w.m - 1) (w.m - 1)).any (fun _ => false) = false := by simp
  rw [hf] at b2
  have p5 : fA5 (alL w t2.length k none none none none none none) t4 = some (.nx, alL w t2.length k none none none none none none, t5) := if_no (any_no b1 b2)
  obtain ⟨t6, y7, y8, p6, g6⟩ := a6_ok (k := k) o (b3.at hr4) none none none none none none
  obtain ⟨t7, y9, y10, y11, p7, g7⟩ := a7_ok (k := k) o ((b3.trans g6).at hr4) (hkn.grow hkl (b3.trans g6)) (by have := (b3.trans g6).len; omega) y7 y8 none none none none
  have gAll : Gr s t7 := by
    have h1 : Gr t1 t2 := ⟨_, ht2⟩
    have h2 : Gr t2 t3 := ⟨_, ht3⟩
    exact (((((a3.trans h1).trans h2).trans g4).trans b3).trans g6).trans g7
  have hB : B_are_levels L0 s = some (.rt (.bl true), alL w t2.length k y7 y8 y9 y10 y11 none, t7) := by
    rw [B_are_levels_eq]
    exact sq_nx p1 (sq_nx p2 (sq_nx p3 (sq_nx p4 (sq_nx p5 (sq_nx p6 (sq_nx p7 (rt_eq rfl)))))))
  exact run_rt rfl hB (gAll.gB true)
/-! ### a trip is judged -/
theorem fin_succ (w : Wd) : ∀ (n i : Nat) (t : Int), fin w (n + 1) i t = arr w (i + n) (fin w n i t)
  | 0, i, t => rfl
  | n + 1, i, t => by
    have e : fin w (n + 1 + 1) i t = fin w (n + 1) (i + 1) (arr w i t) := rfl
    rw [e, fin_succ w n (i + 1)]
    have e2 : fin w (n + 1) i t = fin w n (i + 1) (arr w i t) := rfl
    rw [e2]
    congr 1
    omega
theorem tripL_at (w : Wd) : ∀ (n i : Nat) (t : Int) (x : Nat), x < n → (tripL w n i t)[x]? = some (leg w (i + x) (fin w x i t))
  | n + 1, i, t, 0, _ => rfl
  | n + 1, i, t, x + 1, h => by
    rw [tripL, List.getElem?_cons_succ, tripL_at w n (i + 1) _ x (by omega)]
    have e : i + 1 + x = i + (x + 1) := by omega
    rw [e]
    rfl
def teL (w : Wd) (i : Nat) (t t0 : Int) (k : Nat) (x7 x8 x9 x10 : Option D) : Loc :=
  [some (flo w.m), some (gates w), some (cl 0), some (.int t), some (.ft (tripL w (w.m - 1) 0 t0)), some (.ref k), some (cl i), x7, x8, x9, x10]
theorem fin_ge {w : Wd} (o : w.Ok) (n i : Nat) (t : Int) : t ≤ fin w n i t := by
  have := (fin_bd o n i t).1
  omega
theorem f_trip_end (o : w.Ok) {t0 : Int} (h0 : 0 ≤ t0) (s : Sto) : F_trip_end [flo w.m, gates w, cl 0, .int t0, .ft (tripL w (w.m - 1) 0 t0)] s = some (.tup [cl (w.m - 1), .int (fin w (w.m - 1) 0 t0)], s) := by
  have m2 := o.m2
  have m6 := o.m6
  have r1 := o.r1
  have hR : (0 : Int) < w.R := by omega
  have i0 : ∀ s, ixD (gates w) (.int 0) s = some (.int w.R, s) := fun s => ix_T rfl s
  have i1 : ∀ s, ixD (flo w.m) (.int 1) s = some (.ft (ways w.m), s) := fun s => ix_T rfl s
  let L0 : Loc := [some (flo w.m), some (gates w), some (cl 0), some (.int t0), some (.ft (tripL w (w.m - 1) 0 t0)), none, none, none, none, none, none]
  obtain ⟨t1, n1, a1, a2, a3⟩ := allc (fi := fSeqI (fvar 4)) (fg := fNm 10) (fe := fCall F_is_tuple_of (fAc (fvar 10) (fAc (fC (.int 3)) fA0))) (vs := [10]) (L := L0) (s := s) (items := tripL w (w.m - 1) 0 t0) (fun _ => true)
    (by simp -implicitDefEqProofs [L0, fSeqI, seqI]) (fun d hd => ⟨_, fun _ => rfl, fun s' g => ⟨s', by
      obtain ⟨x, hx⟩ := List.mem_iff_getElem?.mp hd
      have hx2 := (List.getElem?_eq_some_iff.mp hx).1
      rw [tripL_len] at hx2
      rw [tripL_at w _ _ _ x hx2] at hx
      cases hx
      have e := f_is_tuple_of [.int (go w (0 + x) (fin w x 0 t0)), cl (0 + x), cl (0 + x + 1)] 3 s'
      unfold leg
      simp at e
      simp -implicitDefEqProofs [wipeL, L0, e], Gr.refl _⟩⟩) (sz _ (by rw [tripL_len]; omega))
  have ht : (tripL w (w.m - 1) 0 t0).all (fun _ => true) = true := by simp
  rw [ht] at a2
  have p1 : fIfS (fOr (fNot (fTb (fCB isiD (fAc (fvar 4) (fAc (fC (.ty "tuple")) fA0))))) (fNot (fTb (fCB allD (fAc (fLc (fSeqI (fvar 4)) (fNm 10) fYes (fCall F_is_tuple_of (fAc (fvar 10) (fAc (fC (.int 3)) fA0))) [10]) fA0))))) (fRt (fC .non)) fNx L0 s = some (.nx, L0, t1) := if_no (by
    have e1 : fNot (fTb (fCB isiD (fAc (fvar 4) (fAc (fC (.ty "tuple")) fA0)))) L0 s = some (false, s) := by simp -implicitDefEqProofs [L0]
    rw [e_Or, e1]
    simp only [Option.bind_some, Bool.false_eq_true, if_false]
    rw [e_Not, all_yes a1 a2]
    rfl)
  obtain ⟨k, t2, k1, g2, hk, hd⟩ := f_known o t1
  have hkl : k < t2.length := (List.getElem?_eq_some_iff.mp hd).1
  have hkn : Kn w k t2 := by
    unfold Kn
    rw [hd]
    rfl
  have p2 : fPar 5 6 (fAc (fCall F_known_gates (fAc (fvar 1) fA0)) (fAc (fvar 2) fA0)) L0 t1 = some (.nx, teL w 0 t0 t0 k none none none none, t2) := by
    simp -implicitDefEqProofs [L0, k1, teL]
  obtain ⟨L', t3, e1, ⟨y7, y8, y9, hL⟩, g3⟩ := for_inv (fi := fSeqI (fvar 4)) (fg := fGt 3 (fGc (fNm 7) (fGc (fNm 8) (fGc (fNm 9) fG0)))) (fb := fSq (fIfS (fOr (fNot (fTb (fCall F_is_integer (fAc (fvar 7) fA0)))) (fOr (fTb (fE2 ltD (fvar 7) (fvar 3))) (fOr (fNot (fTb (fCall F_is_pair_of_names (fAc (fTup (fAc (fvar 8) (fAc (fvar 9) fA0))) fA0)))) (fTb (fE2 neD (fvar 8) (fvar 6)))))) (fRt (fC .non)) fNx)
    (fSq (fIfS (fOr (fTb (fE2 notInD (fTup (fAc (fvar 8) (fAc (fvar 9) fA0))) (fE2 ixD (fvar 0) (fC (.int 1))))) (fNot (fTb (fCall F_is_open (fAc (fvar 5) (fAc (fTup (fAc (fvar 8) (fAc (fvar 9) fA0))) (fAc (fE2 modD (fvar 7) (fE2 ixD (fvar 1) (fC (.int 0)))) fA0))))))) (fRt (fC .non)) fNx)
    (fPar 6 3 (fAc (fvar 9) (fAc (fE2 addD (fvar 7) (fCall F_takes_of (fAc (fvar 5) (fAc (fTup (fAc (fvar 8) (fAc (fvar 9) fA0))) fA0)))) fA0))))) (items := tripL w (w.m - 1) 0 t0) (c := []) (L := teL w 0 t0 t0 k none none none none) (s := t2) (s0 := t2)
    (by simp -implicitDefEqProofs [teL, fSeqI, seqI])
    (fun x L s => (∃ y7 y8 y9, L = teL w x (fin w x 0 t0) t0 k y7 y8 y9 none) ∧ Gr t2 s) (fun _ _ _ _ => rfl) (by
      intro x d L s' hd ⟨⟨y7, y8, y9, hL⟩, g⟩
      subst hL
      have hx := (List.getElem?_eq_some_iff.mp hd).1
      rw [tripL_len] at hx
      rw [tripL_at w _ _ _ x hx, Nat.zero_add] at hd
      cases hd
      have q := go_is o x (fin w x 0 t0)
      have hge := fin_ge o x 0 t0
      have c1 := f_is_integer (go w x (fin w x 0 t0)) s'
      have c2 := f_pair (nm_ok (i := x) (by omega)) (nm_ok (i := x + 1) (by omega)) s'
      have c3 := way_in (i := x) hx m6 s'
      have c4 := f_open o (hkn.grow hkl g) hx (p := go w x (fin w x 0 t0) % w.R) (t := go w x (fin w x 0 t0)) rfl
      have c5 := f_takes o (hkn.grow hkl g) hx
      rw [q.op] at c4
      unfold wy at c3 c4 c5
      have hlt : ¬ go w x (fin w x 0 t0) < fin w x 0 t0 := by have := q.ge; omega
      have c6 : ∀ s, neD (cl x) (cl x) s = some (.bl false, s) := fun s => by unfold cl; rw [o_neS]; simp
      refine ⟨teL w x (fin w x 0 t0) t0 k (some (.int (go w x (fin w x 0 t0)))) (some (cl x)) (some (cl (x + 1))) none, s', teL w (x + 1) (fin w (x + 1) 0 t0) t0 k (some (.int (go w x (fin w x 0 t0)))) (some (cl x)) (some (cl (x + 1))) none, s', rfl, ?_, ⟨_, _, _, rfl⟩, g⟩
      refine sq_nx (if_no (s' := s') ?_) (sq_nx (if_no (s' := s') ?_) ?_)
      · unfold cl at c2
        simp -implicitDefEqProofs [teL, c1, hlt, sz2, c6, cl, c2]
      · simp -implicitDefEqProofs [teL, sz2, i1, c3, i0, o_mod hR, c4]
      · have e := fin_succ w x 0 t0
        rw [Nat.zero_add] at e
        simp -implicitDefEqProofs [teL, sz2, c5, e, arr]) ⟨⟨none, none, none, rfl⟩, Gr.refl _⟩
  rw [tripL_len] at hL
  subst hL
  have hB : B_trip_end L0 s = some (.rt (.tup [cl (w.m - 1), .int (fin w (w.m - 1) 0 t0)]), teL w (w.m - 1) (fin w (w.m - 1) 0 t0) t0 k y7 y8 y9 none, t3) :=
    sq_nx p1 (sq_nx p2 (sq_nx e1 (rt_eq (by simp -implicitDefEqProofs [teL, sz2]))))
  exact run_rt rfl hB (((a3.trans g2).trans g3).finP rfl)
end
end FL

set_option Elab.async false
set_option linter.all false
set_option maxRecDepth 100000
set_option autoImplicit false
namespace FL
open PySem PySem.Spec PyProof.Rows L2
section
variable {w : Wd}
theorem f_trip_told (o : w.Ok) {t : Int} (h0 : 0 ≤ t) (h1 : t ≤ 9999) (s : Sto) : F_trip_told [flo w.m, gates w, cl 0, .int t, .ft (tripL w (w.m - 1) 0 t)] s = some (.tup [cl (w.m - 1), .int (fin w (w.m - 1) 0 t)], s) := by
  have m2 := o.m2
  have c1 := f_check_ends o (i := 0) (j := 0) (by omega) (by omega)
  have c2 := fun s => f_check_tick h0 h1 s
  have c3 := f_trip_end o h0
  have fin' : gc s (.tup [cl (w.m - 1), .int (fin w (w.m - 1) 0 t)]) s = (.tup [cl (w.m - 1), .int (fin w (w.m - 1) 0 t)], s) := gc_self _ _
  simp -implicitDefEqProofs [F_trip_told, B_trip_told, run, startL, c1, c2, c3]
theorem cells_pure (m : Nat) : D.pures (cells m) = true := by rw [cells_str]; exact pures_str _
theorem nm_at (m : Nat) : (List.range m).map nm = (List.range m).map nm := rfl
theorem strs_cells : ∀ l : List Nat, strsD (l.map cl) = some (l.map nm)
  | [] => rfl
  | i :: l => by
    rw [List.map_cons]
    show (strsD (l.map cl)).map (nm i :: ·) = _
    rw [strs_cells l]
    rfl
theorem idx0 {m : Nat} (hm : 1 ≤ m) (s : Sto) : idxTD (.ft (cells m)) [cl 0] s = some (.int 0, s) := by
  obtain ⟨l, hl⟩ := range_pos hm
  unfold cells
  rw [hl]
  unfold idxTD cl
  have e : strsD ((0 :: l).map fun i => D.str (nm i)) = some ((0 :: l).map nm) := strs_cells (0 :: l)
  simp only [e, Option.bind_some]
  rw [List.map_cons, firstAt, if_pos rfl]
  rfl
theorem f_shows (o : w.Ok) {t : Int} (h0 : 0 ≤ t) (h1 : t ≤ 9999) (s : Sto) : F_shows_gates [flo w.m, gates w, cl 0, cl (w.m - 1), .int t, told w t] s = some (.bl true, s) := by
  have m2 := o.m2
  have m6 := o.m6
  have r1 := o.r1
  have hR : (0 : Int) < w.R := by omega
  have i0 : ∀ s, ixD (gates w) (.int 0) s = some (.int w.R, s) := fun s => ix_T rfl s
  have c1 := f_check_ends o (i := 0) (j := w.m - 1) (by omega) (by omega)
  have c2 := fun s => f_check_tick h0 h1 s
  have c3 := f_trip_end o h0
  have c4 := f_are_levels o
  have c5 := f_is_between (lev w (w.m - 1) 0 t) 0 100000
  have v0 : ∀ s, ixD (told w t) (.int 0) s = some (.str "comes", s) := fun s => ix_T rfl s
  have v1 : ∀ s, ixD (told w t) (.int 1) s = some (.int (lev w (w.m - 1) 0 t), s) := fun s => ix_T rfl s
  have v2 : ∀ s, ixD (told w t) (.int 2) s = some (.ft (tripL w (w.m - 1) 0 t), s) := fun s => ix_T rfl s
  have v3 : ∀ s, ixD (told w t) (.int (-1)) s = some (.ft (table w (w.m - 1)), s) := fun s => ix_T rfl s
  have v4 : ∀ s, lenD [told w t] s = some (.int 4, s) := fun s => rfl
  have v5 : ∀ s, isiD [told w t, .ty "tuple"] s = some (.bl true, s) := fun s => by
    unfold told
    simp
  have n1 := lev_nn o (w.m - 1) 0 t
  have n2 : lev w (w.m - 1) 0 t ≤ 100000 := by
    have := (lev_bd o (w.m - 1) 0 t).2
    have : ((w.m - 1 - 0 : Nat) : Int) ≤ 5 := by omega
    omega
  rw [decide_eq_true n1, decide_eq_true n2] at c5
  have e1 : ∀ s, ixD (.ft (table w (w.m - 1))) (.int 0) s = some (.ft (rowL w (w.m - 1) 0), s) := fun s => by
    refine ix_F ?_ s
    have : (table w (w.m - 1))[0]? = some (.ft (rowL w (w.m - 1) 0)) := by
      unfold table
      rw [List.getElem?_map, List.getElem?_range (by omega)]
      rfl
    exact atI_nn this
  have e2 := row_ix o (w.m - 1) 0 t
  have e3 := fun s => idx0 (m := w.m) (by omega) s
  have e4 : ∀ s, inD (.int 4) (.tup [.int 2, .int 4]) s = some (.bl true, s) := fun s => by
    have := anyI' 4 [2, 4] s
    simpa using this
  have e5 : ∀ s, notInD (.int 4) (.tup [.int 2, .int 4]) s = some (.bl false, s) := fun s => by
    have := anyI 4 [2, 4]
    simp [notInD, inS, D.pure, D.pures, D.dep, D.deps]
    simpa using this
  have e6 : t + lev w (w.m - 1) 0 t = fin w (w.m - 1) 0 t := by
    unfold lev
    rw [Nat.sub_zero]
    omega
  have e7 : ∀ s, eqD (.tup [cl (w.m - 1), .int (fin w (w.m - 1) 0 t)]) (.tup [cl (w.m - 1), .int (fin w (w.m - 1) 0 t)]) s = some (.bl true, s) := fun s => by
    rw [o_eq rfl rfl (by show 1 ≤ 60; omega)]
    simp [D.P, D.Ps, cl, PyData.eqv, PyData.eqvAll]
  have t1 : ∀ s, tyD "tuple" s (.ft (cells w.m)) = true := fun s => rfl
  simp -implicitDefEqProofs [F_shows_gates, B_shows_gates, run, startL, c1, c2, v5, v4, e5, v0, v1, v2, v3, sz2, c4, c5, cell0, t1, e3, e1, i0, o_mod hR, e2, c3, e6, e7, negD]
end
end FL

set_option Elab.async false
set_option linter.all false
set_option maxRecDepth 100000
set_option autoImplicit false
namespace FL
open PySem PySem.Spec PyProof.Rows L2
/-! ### nobody comes -/
theorem pop_ok : (decide (-(2 ^ 63 : Int) ≤ 0) && decide ((0 : Int) < 2 ^ 63)) = true := by decide +kernel
theorem pop_one {n : Nat} {x : D} {s : Sto} (h : s[n]? = some (.lst [x])) : popD (.ref n) [.int 0] s = some (x, s.set n (.lst [])) := by
  unfold popD
  simp only [h]
  rw [if_pos pop_ok]
  rfl
theorem i_Pop {fr : FE} {L : Loc} {s : Sto} {n : Nat} {x : D} (h1 : fr L s = some (.ref n, s)) (h3 : s[n]? = some (.lst [x])) : fM "list" popD fr (fAc (fC (.int 0)) fA0) L s = some (x, s.set n (.lst [])) := by
  have t : tyD "list" s (.ref n) = true := by simp [tyD, lstD, h3]
  have a := pop_one h3
  unfold fM
  rw [h1]
  simp only [Option.bind_some, t, if_true, e_Ac, e_C, e_A0, a]
theorem sortOk_one : ∀ i, i < 6 → sortOk [cl i] = true := by decide +kernel
def frL (m q r wl : Nat) (x5 x6 : Option D) : Loc := [some (flo m), some (cl (m - 1)), some (.ref q), some (.ref r), some (.ref wl), x5, x6]
theorem f_fars {m : Nat} (h2 : 2 ≤ m) (hm : m ≤ 6) (s : Sto) : ∃ r t, F_fars_of [flo m, cl (m - 1)] s = some (.ref r, t) ∧ Gr s t ∧ t[r]? = some (.dK [(.inr (nm (m - 1)), .int 0)]) := by
  have hs : sizeLine = 16777216 := sizeLine_eq
  obtain ⟨q, t1, q1, g1, hq, hn⟩ := f_goes_from hm s
  have hql := hn.lt (by omega)
  obtain ⟨a, d1, d2⟩ := hn.at' (m - 1) (by omega)
  rw [if_neg (by omega)] at d2
  let t2 : Sto := t1 ++ [.dK [(.inr (nm (m - 1)), .int 0)]] ++ [.lst [cl (m - 1)]]
  have l2 : (t1 ++ [O.dK [(.inr (nm (m - 1)), D.int 0)]]).length = t1.length + 1 := by simp
  have e1 : fDK1 (fvar 1) (fC (.int 0)) [some (flo m), some (cl (m - 1)), none, none, none, none, none] t1 = some (.ref t1.length, t1 ++ [.dK [(.inr (nm (m - 1)), .int 0)]]) := by
    unfold fDK1
    rw [v_at (d := cl (m - 1)) rfl]
    have e : (t1 ++ [O.dK []])[t1.length]? = some (.dK []) := by simp
    have e2 : (t1 ++ [O.dK []]).set t1.length (.dK [(.inr (nm (m - 1)), .int 0)]) = t1 ++ [.dK [(.inr (nm (m - 1)), .int 0)]] := by
      rw [List.set_append_right _ _ (Nat.le_refl _)]
      simp
    simp only [Option.bind_some, e_C, e]
    rw [← e2]
    rfl
  have p1 : fPar3 2 3 4 (fAc (fCall F_goes_from (fAc (fvar 0) fA0)) (fAc (fDK1 (fvar 1) (fC (.int 0))) (fAc (fLst (fAc (fvar 1) fA0)) fA0))) [some (flo m), some (cl (m - 1)), none, none, none, none, none] s = some (.nx, frL m q t1.length (t1.length + 1) none none, t2) := by
    simp -implicitDefEqProofs [q1, e1, sz1, frL, t2]
  have r2 : t2[t1.length]? = some (.dK [(.inr (nm (m - 1)), .int 0)]) := by
    show (t1 ++ [O.dK [(.inr (nm (m - 1)), .int 0)]] ++ [.lst [cl (m - 1)]])[t1.length]? = _
    rw [List.getElem?_append_left (by omega)]
    simp
  have w2 : t2[t1.length + 1]? = some (.lst [cl (m - 1)]) := by
    show (t1 ++ [O.dK [(.inr (nm (m - 1)), .int 0)]] ++ [.lst [cl (m - 1)]])[t1.length + 1]? = _
    rw [List.getElem?_append_right (by omega)]
    simp
  have gt2 : Gr t1 t2 := (Gr.app t1 _).trans (Gr.app _ _)
  have htest : ∀ (xs : List D) (s : Sto) (x5 x6 : Option D), D.pures xs = true → s[t1.length + 1]? = some (.lst xs) → fTb (fE2 neD (fvar 4) (fLst fA0)) (frL m q t1.length (t1.length + 1) x5 x6) s = some (!decide (xs = []), s ++ [.lst []]) := by
    intro xs s x5 x6 hp hx
    have n1 := ne_nil (a := t1.length + 1) (b := s.length) (xs := xs) (s := s ++ [.lst []]) ((Gr.app s _).at hx) (by simp) hp
    simp -implicitDefEqProofs [frL, sz, n1]
  obtain ⟨L', u, e, hL, hu, hg⟩ := wh_inv (c := fTb (fE2 neD (fvar 4) (fLst fA0))) (b := fSq (fAs (fM "list" popD (fvar 4) (fAc (fC (.int 0)) fA0)) (fNm 5))
    (fFor (fSeqI (fE2 ixD (fvar 2) (fvar 5))) (fNm 6)
    (fIfS (fTb (fE2 notInD (fvar 6) (fvar 3))) (fSq (fPut (fE2 addD (fE2 ixD (fvar 3) (fvar 5)) (fC (.int 1))) (fvar 3) (fvar 6))
    (fEx (fM "list" appD (fvar 4) (fAc (fvar 6) fA0)))) fNx)))
    (fun n L s => ∃ x5 x6 xs, L = frL m q t1.length (t1.length + 1) x5 x6 ∧ Gr t1 s ∧ s[t1.length]? = some (.dK [(.inr (nm (m - 1)), .int 0)]) ∧ s[t1.length + 1]? = some (.lst xs) ∧ ((n = 0 ∧ xs = []) ∨ (n = 1 ∧ xs = [cl (m - 1)])))
    (fun L s => L[3]? = some (some (.ref t1.length)) ∧ s[t1.length]? = some (.dK [(.inr (nm (m - 1)), .int 0)]) ∧ Gr t1 s)
    (by
      intro n L s ⟨x5, x6, xs, hL, g, hr, hx, hc⟩
      subst hL
      rcases hc with ⟨rfl, rfl⟩ | ⟨rfl, rfl⟩
      · left
        exact ⟨_, htest [] s x5 x6 rfl hx, rfl, (Gr.app s _).at hr, g.trans (Gr.app _ _)⟩
      · right
        have ht := htest [cl (m - 1)] s x5 x6 rfl hx
        obtain ⟨s1, hs1⟩ : ∃ s1, s1 = s ++ [O.lst []] := ⟨_, rfl⟩
        rw [← hs1] at ht
        have g1' : Gr s s1 := ⟨_, hs1⟩
        have hx1 := g1'.at hx
        have hxl := (List.getElem?_eq_some_iff.mp hx1).1
        have pp := i_Pop (fr := fvar 4) (L := frL m q t1.length (t1.length + 1) x5 x6) rfl hx1
        have p5 : fAs (fM "list" popD (fvar 4) (fAc (fC (.int 0)) fA0)) (fNm 5) (frL m q t1.length (t1.length + 1) x5 x6) s1 = some (.nx, frL m q t1.length (t1.length + 1) (some (cl (m - 1))) x6, s1.set (t1.length + 1) (.lst [])) := by
          unfold fAs
          rw [pp]
          rfl
        have gs2 : Gr t1 (s1.set (t1.length + 1) (.lst [])) := (g.trans g1').set (by omega) _
        have ix1 : ixD (.ref q) (cl (m - 1)) (s1.set (t1.length + 1) (.lst [])) = some (.ref a, s1.set (t1.length + 1) (.lst [])) := by
          have hn' := hn.grow hql gs2
          refine ix_ref hn'.nl ?_
          have : (s1.set (t1.length + 1) (.lst []))[q]? = t1[q]? := by
            obtain ⟨rr, hrr⟩ := gs2
            rw [hrr, List.getElem?_append_left hql]
          unfold dget at d1 ⊢
          rw [this]
          exact d1
        have d2' := gs2.at d2
        have p6 : fFor (fSeqI (fE2 ixD (fvar 2) (fvar 5))) (fNm 6)
          (fIfS (fTb (fE2 notInD (fvar 6) (fvar 3))) (fSq (fPut (fE2 addD (fE2 ixD (fvar 3) (fvar 5)) (fC (.int 1))) (fvar 3) (fvar 6))
          (fEx (fM "list" appD (fvar 4) (fAc (fvar 6) fA0)))) fNx) (frL m q t1.length (t1.length + 1) (some (cl (m - 1))) x6) (s1.set (t1.length + 1) (.lst [])) = some (.nx, frL m q t1.length (t1.length + 1) (some (cl (m - 1))) x6, s1.set (t1.length + 1) (.lst [])) := by
          have eI : fSeqI (fE2 ixD (fvar 2) (fvar 5)) (frL m q t1.length (t1.length + 1) (some (cl (m - 1))) x6) (s1.set (t1.length + 1) (.lst [])) = some (⟨[], [(a, .lst [])]⟩, s1.set (t1.length + 1) (.lst [])) := by
            simp -implicitDefEqProofs [fSeqI, frL, ix1, seqI, d2']
          have st : stands [(a, O.lst [])] (s1.set (t1.length + 1) (.lst [])) = true := stands_of fun c hc => by
            simp only [List.mem_cons, List.not_mem_nil, or_false] at hc
            subst hc
            exact d2'
          unfold fFor
          rw [eI]
          simp only [Option.bind_some]
          rw [fLoop, if_pos st]
        refine ⟨s1, _, _, 0, ht, sq_nx p5 p6, by omega, some (cl (m - 1)), x6, [], rfl, gs2, ?_, ?_, .inl ⟨rfl, rfl⟩⟩
        · rw [List.getElem?_set_ne (by omega)]
          exact g1'.at hr
        · rw [List.getElem?_set_self hxl])
    100000 1 _ _ (by omega) ⟨none, none, [cl (m - 1)], rfl, gt2, r2, w2, .inr ⟨rfl, rfl⟩⟩
  have hl1 := g1.len
  refine ⟨t1.length, u, ?_, g1.trans hg, hu⟩
  have hB : B_fars_of [some (flo m), some (cl (m - 1)), none, none, none, none, none] s = some (.rt (.ref t1.length), L', u) := sq_nx p1 (sq_nx e (rt_eq (v_at hL u)))
  exact run_rt rfl hB (gc_ref (by omega))
theorem f_lot {m : Nat} (h2 : 2 ≤ m) (hm : m ≤ 6) (s : Sto) : F_lot_from [flo m, cl (m - 1)] s = some (.ft [cl (m - 1)], s) := by
  obtain ⟨r, t, e1, g, e2⟩ := f_fars h2 hm s
  have so := sortOk_one (m - 1) (by omega)
  have e3 : sortD [.ref r] t = some (.ref t.length, t ++ [.lst [cl (m - 1)]]) := by
    have ks : dkeysD (.dK [(.inr (nm (m - 1)), .int 0)]) = some [cl (m - 1)] := rfl
    have e : sortDs [cl (m - 1)] = [cl (m - 1)] := by simp [sortDs]
    unfold sortD
    simp only [e2, ks, so, if_true, e]
  have e4 : tupD [.ref t.length] (t ++ [.lst [cl (m - 1)]]) = some (.ft [cl (m - 1)], t ++ [.lst [cl (m - 1)]]) := tup_lst (by simp)
  have fin := (g.trans (Gr.app t [.lst [cl (m - 1)]])).finP (d := .ft [cl (m - 1)]) rfl
  simp -implicitDefEqProofs [F_lot_from, B_lot_from, run, startL, e1, e3, e4, fin]
theorem f_never {w : Wd} (o : w.Ok) (hm : w.m = 2) {t : Int} (h0 : 0 ≤ t) (h1 : t ≤ 9999) (s : Sto) : F_gates_told [flo w.m, gates w, cl (w.m - 1), cl 0, .int t] s = some (.tup [.str "never", .ft [cl (w.m - 1)]], s) := by
  have r1 := o.r1
  have hR : (0 : Int) < w.R := by omega
  have i0 : ∀ s, ixD (gates w) (.int 0) s = some (.int w.R, s) := fun s => ix_T rfl s
  have c1 := f_check_ends o (i := w.m - 1) (j := 0) (by omega) (by omega)
  have c2 := fun s => f_check_tick h0 h1 s
  obtain ⟨f, u, fo, k1, g1, hf, fd⟩ := f_levels o (G := 0) (by omega) s
  have nv : valD fo (kq (w.m - 1) (t % w.R)) = none := by
    rcases e : valD fo (kq (w.m - 1) (t % w.R)) with _ | d
    · rfl
    · obtain ⟨i, p, e2, hv⟩ := fd.vf _ (val_mem e)
      injection e2 with e2 _
      have := hv.i
      have := (kq_inj (by omega) (by omega) e2).1
      omega
  have n1 : notInD (.tup [cl (w.m - 1), .int (t % w.R)]) (.ref f) u = some (.bl true, u) := by
    have := (in_T fd.sf (w.m - 1, t % w.R)).2
    rw [nv] at this
    exact this
  have e1 := f_lot (m := w.m) (by omega) (by omega) u
  have fin := g1.finP (d := .tup [.str "never", .ft [cl (w.m - 1)]]) rfl
  simp -implicitDefEqProofs [F_gates_told, B_gates_told, run, startL, c1, c2, k1, i0, sz2, o_mod hR, n1, e1, fin]
end FL

set_option Elab.async false
set_option linter.all false
set_option maxRecDepth 100000
set_option autoImplicit false
namespace FL
open PySem PySem.Spec PyProof.Rows L2
/-! ### the store but one cell -/
structure Ds (r : Nat) (s t : Sto) : Prop where
  le : s.length ≤ t.length
  eq : ∀ i, i < s.length → i ≠ r → t[i]? = s[i]?
theorem Ds.refl (r : Nat) (s : Sto) : Ds r s s := ⟨Nat.le_refl _, fun _ _ _ => rfl⟩
theorem Ds.trans {r : Nat} {s t u : Sto} (a : Ds r s t) (b : Ds r t u) : Ds r s u := ⟨Nat.le_trans a.le b.le, fun i hi hr => by
  have := a.le
  rw [b.eq i (by omega) hr, a.eq i hi hr]⟩
theorem Ds.of_gr {r : Nat} {s t : Sto} (g : Gr s t) : Ds r s t := ⟨g.len, fun i hi _ => by
  obtain ⟨q, rfl⟩ := g
  rw [List.getElem?_append_left hi]⟩
theorem Ds.set (r : Nat) (s : Sto) (o : O) : Ds r s (s.set r o) := ⟨by simp, fun i _ hr => List.getElem?_set_ne (fun e => hr e.symm)⟩
theorem Ds.take {r : Nat} {s t : Sto} (a : Ds r s t) : Ds r s (t.take s.length) := ⟨by have := a.le; simp; omega, fun i hi hr => by
  rw [List.getElem?_take_of_lt hi, a.eq i hi hr]⟩
theorem Ds.at' {r : Nat} {s t : Sto} (a : Ds r s t) {i : Nat} (hr : i ≠ r) {o : O} (h : s[i]? = some o) : t[i]? = some o := by
  rw [a.eq i (List.getElem?_eq_some_iff.mp h).1 hr, h]
theorem kept_of {n : Nat} : ∀ (s t : Sto), (∀ (i : Nat) (o : O), s[i]? = some o → ∃ o' : O, t[i]? = some o' ∧ (o = o' ∨ O.low n o' = true)) → kept n s t = true
  | [], _, _ => rfl
  | a :: s, [], h => by
    obtain ⟨o', e, _⟩ := h 0 a rfl
    simp at e
  | a :: s, b :: t, h => by
    have h0 := h 0 a rfl
    obtain ⟨o', e, h1⟩ := h0
    simp only [List.getElem?_cons_zero, Option.some.injEq] at e
    subst e
    have ih := kept_of s t fun i o ho => h (i + 1) o (by simpa using ho)
    unfold kept
    rw [ih, Bool.and_true]
    rcases h1 with h1 | h1
    · rw [h1, O.beq_self]
      rfl
    · rw [h1, Bool.or_true]
theorem gc_pot {r : Nat} {s t : Sto} {d : D} {o : O} (hd : d.pure = true) (a : Ds r s t) (hr : t[r]? = some o) (hl : o.low s.length = true) : gc s d t = (d, t.take s.length) := by
  unfold gc
  rw [if_pos]
  rw [Bool.and_eq_true]
  refine ⟨D.low_pure hd, kept_of s t fun i o' h => ?_⟩
  by_cases e : i = r
  · subst e
    exact ⟨o, hr, .inr hl⟩
  · exact ⟨o', a.at' e h, .inl rfl⟩
/-- after a call, whatever is forgotten -/
theorem gc_any {r : Nat} {s t : Sto} {d : D} (a : Ds r s t) : ∃ t', gc s d t = (d, t') ∧ Ds r s t' := by
  unfold gc
  split
  · exact ⟨_, rfl, a.take⟩
  · exact ⟨_, rfl, a⟩
structure Pot (r n : Nat) (s : Sto) : Prop where
  ex : ∃ a b c : Int, s[r]? = some (.lst [.int a, .int b, .int c]) ∧ 0 ≤ a ∧ 0 ≤ b ∧ b ≤ 2305843009213693951 ∧ 0 ≤ c ∧ c ≤ n
theorem Pot.lt {r n : Nat} {s : Sto} (h : Pot r n s) : r < s.length := by
  obtain ⟨a, b, c, e, _⟩ := h.ex
  exact (List.getElem?_eq_some_iff.mp e).1
theorem Pot.gr {r n : Nat} {s t : Sto} (h : Pot r n s) (g : Gr s t) : Pot r n t := by
  obtain ⟨a, b, c, e, rest⟩ := h.ex
  exact ⟨a, b, c, g.at e, rest⟩
theorem Pot.mono {r n m : Nat} {s : Sto} (h : Pot r n s) (hm : n ≤ m) : Pot r m s := by
  obtain ⟨a, b, c, e, h1, h2, h3, h4, h5⟩ := h.ex
  exact ⟨a, b, c, e, h1, h2, h3, h4, by omega⟩
theorem Pot.set {r n k : Nat} {s : Sto} (h : Pot r n s) (hk : k ≠ r) (o : O) : Pot r n (s.set k o) := by
  obtain ⟨a, b, c, e, rest⟩ := h.ex
  exact ⟨a, b, c, by rw [List.getElem?_set_ne hk]; exact e, rest⟩
theorem Pot.take {r n k : Nat} {s : Sto} (h : Pot r n s) (hk : r < k) : Pot r n (s.take k) := by
  obtain ⟨a, b, c, e, rest⟩ := h.ex
  exact ⟨a, b, c, by rw [List.getElem?_take_of_lt hk]; exact e, rest⟩
theorem bits64 {x : Int} (h : x.natAbs < 18446744073709551616) : Builtin.Int.intBits x ≤ 64 := intBits_le_iff.mpr (by
  have e : (2 : Nat) ^ 64 = 18446744073709551616 := by decide +kernel
  rw [e]
  exact h)
theorem mulOk_bits {i j : Int} {a b : Nat} (hi : Builtin.Int.intBits i ≤ a) (hj : Builtin.Int.intBits j ≤ b) (h : a + b ≤ 1000000) : mulOk i j = true := by
  unfold mulOk
  rw [decide_eq_true]
  omega
theorem mul64 {i j : Int} (hi : i.natAbs < 18446744073709551616) (hj : j.natAbs < 18446744073709551616) (s : Sto) : mulD (.int i) (.int j) s = some (.int (i * j), s) := by
  unfold mulD
  simp only
  rw [if_pos (mulOk_bits (bits64 hi) (bits64 hj) (by omega))]
theorem pow3 {i : Int} (hi : i.natAbs < 18446744073709551616) (s : Sto) : powD (.int i) (.int 3) s = some (.int (i ^ 3), s) := by
  unfold powD
  simp only
  rw [if_pos]
  · rfl
  · have := bits64 hi
    rw [decide_eq_true (by omega), decide_eq_true (by omega)]
    rfl
theorem fdiv_ok {i j : Int} (h : 0 < j) (h2 : j ≤ 1000000) (s : Sto) : fdivD (.int i) (.int j) s = some (.int (i / j), s) := by
  unfold fdivD
  simp only
  rw [if_pos]
  rw [decide_eq_true h, decide_eq_true]
  · rfl
  · have h0 : j.natAbs ≠ 0 := by omega
    rw [Nat.log2_lt h0]
    refine Nat.lt_of_lt_of_le (show j.natAbs < 2 ^ 20 by omega) (Nat.pow_le_pow_right (by omega) (by omega))
theorem int_id (i : Int) (s : Sto) : intD [.int i] s = some (.int i, s) := rfl
theorem put_L {n : Nat} {s : Sto} {ds : List D} {k : Nat} {v : D} (h : s[n]? = some (.lst ds)) (hk : k < ds.length) : putO (.ref n) (.int (k : Int)) v s = some (s.set n (.lst (ds.set k v))) := by
  have e : L2.ixN ds.length (k : Int) = some k := by
    unfold L2.ixN
    simp [hk]
  unfold putO
  simp only [h, e]
  rfl
def primes : List D := [.int 2147483647, .int 2147483629, .int 2147483587, .int 2147483579, .int 2147483563]
theorem prime_at {c : Int} (h0 : 0 ≤ c) : ∃ p : Int, L2.atI primes (c % 5) = some (.int p) ∧ 0 < p ∧ p < 4294967296 := by
  have h1 := Int.emod_nonneg c (b := 5) (by omega)
  have h2 := Int.emod_lt_of_pos c (b := 5) (by omega)
  obtain ⟨k, hk⟩ : ∃ k : Nat, c % 5 = k := ⟨(c % 5).toNat, by omega⟩
  rw [hk]
  have hk5 : k < 5 := by omega
  rcases k with _ | _ | _ | _ | _ | k
  · exact ⟨2147483647, rfl, by omega, by omega⟩
  · exact ⟨2147483629, rfl, by omega, by omega⟩
  · exact ⟨2147483587, rfl, by omega, by omega⟩
  · exact ⟨2147483579, rfl, by omega, by omega⟩
  · exact ⟨2147483563, rfl, by omega, by omega⟩
  · omega
theorem ifs_yes {c : FT} {f g : FS} {L : Loc} {s s' : Sto} {r : Option (Fl × Loc × Sto)} (h : c L s = some (true, s')) (h2 : f L s' = r) : fIfS c f g L s = r := by
  unfold fIfS
  rw [h]
  exact h2
theorem ifs_no {c : FT} {f g : FS} {L : Loc} {s s' : Sto} {r : Option (Fl × Loc × Sto)} (h : c L s = some (false, s')) (h2 : g L s' = r) : fIfS c f g L s = r := by
  unfold fIfS
  rw [h]
  exact h2
theorem sq_rt {f g : FS} {L L' : Loc} {s s' : Sto} {d : D} (h : f L s = some (.rt d, L', s')) : fSq f g L s = some (.rt d, L', s') := by
  unfold fSq
  rw [h]
  rfl
theorem as_nm {f : FE} {i : Nat} {L : Loc} {s s' : Sto} {d : D} (h : f L s = some (d, s')) : fAs f (fNm i) L s = some (.nx, L.set i (some d), s') := by
  unfold fAs
  rw [h]
  rfl
theorem low_ints (n : Nat) (a b c : Int) : O.low n (.lst [.int a, .int b, .int c]) = true := rfl
theorem take_ok {r n : Nat} {s : Sto} {u : Int} (h : Pot r n s) (hn : n ≤ 1000) (hu : 1 ≤ u) (hu2 : u ≤ 1000000) :
    ∃ d s', F__law_take [.ref r, .int u] s = some (.int d, s') ∧ 0 ≤ d ∧ d < u ∧ Pot r (n + 1) s' ∧ Ds r s s' ∧ s'.length = s.length := by
  obtain ⟨a, b, c, e, ha, hb, hb2, hc, hcn⟩ := h.ex
  have hr := h.lt
  have ix0 := ix_L (i := 0) e (atI_zero _ _)
  have ix1 : ∀ {s' : Sto} {x y z : D}, s'[r]? = some (.lst [x, y, z]) → ixD (.ref r) (.int 1) s' = some (y, s') := fun h => ix_L h rfl
  have ix2 : ∀ {s' : Sto} {x y z : D}, s'[r]? = some (.lst [x, y, z]) → ixD (.ref r) (.int 2) s' = some (z, s') := fun h => ix_L h rfl
  let L0 : Loc := [some (.ref r), some (.int u), none, none, none]
  by_cases h0 : 0 < a
  · have hB : B__law_take L0 s = some (.rt (.int (a % u)), [some (.ref r), some (.int u), none, none, some (.int (a % u))], s.set r (.lst [.int (a / u), .int b, .int c])) := by
      refine sq_rt (ifs_yes (s' := s) ?_ (sq_nx (as_nm (s' := s) (d := .int (a % u)) ?_) (sq_nx (i_Put (s1 := s) (s2 := s) (s3 := s) (v := .int (a / u)) (o := .ref r) (i := .int 0) ?_ rfl rfl ?_) (rt_eq rfl))))
      · simp -implicitDefEqProofs [L0, ix0, h0]
      · simp -implicitDefEqProofs [L0, ix0, int_id, o_mod (show 0 < u by omega)]
      · simp -implicitDefEqProofs [L0, ix0, fdiv_ok (show 0 < u by omega) hu2]
      · exact put_L (k := 0) e (by simp)
    have hset : (s.set r (.lst [.int (a / u), .int b, .int c]))[r]? = some (.lst [.int (a / u), .int b, .int c]) := List.getElem?_set_self hr
    have fin := gc_pot (d := .int (a % u)) rfl (Ds.set r s (.lst [.int (a / u), .int b, .int c])) hset (low_ints _ _ _ _)
    have hl : (s.set r (O.lst [.int (a / u), .int b, .int c])).take s.length = s.set r (.lst [.int (a / u), .int b, .int c]) := List.take_of_length_le (by simp)
    rw [hl] at fin
    refine ⟨a % u, s.set r (.lst [.int (a / u), .int b, .int c]), run_rt rfl hB fin, Int.emod_nonneg _ (by omega), Int.emod_lt_of_pos _ (by omega), ⟨a / u, b, c, hset, Int.ediv_nonneg ha (by omega), hb, hb2, hc, by omega⟩, Ds.set _ _ _, by simp⟩
  · let c' : Int := c + 1
    let s1 : Sto := s.set r (.lst [.int a, .int b, .int c'])
    have e1 : s1[r]? = some (.lst [.int a, .int b, .int c']) := List.getElem?_set_self hr
    let s2 : Sto := s1 ++ [.lst primes]
    have e2 : s2[r]? = some (.lst [.int a, .int b, .int c']) := (Gr.app s1 _).at e1
    obtain ⟨p, hp, hp0, hp1⟩ := prime_at (c := c') (by show 0 ≤ c + 1; omega)
    have hc' : c' ≤ 1001 := by show c + 1 ≤ 1001; omega
    have hc0 : 0 ≤ c' := by show 0 ≤ c + 1; omega
    have q1 : 98693 * c' * c' ≤ 98693 * 1001 * 1001 := Int.mul_le_mul (by omega) hc' hc0 (by omega)
    have q0 : 0 ≤ 98693 * c' * c' := Int.mul_nonneg (by omega) hc0
    obtain ⟨X, hX⟩ : ∃ X, X = b + 98693 * c' * c' + 377 := ⟨_, rfl⟩
    obtain ⟨Y, hY⟩ : ∃ Y, Y = X ^ 3 % p := ⟨_, rfl⟩
    have hY0 : 0 ≤ Y := by rw [hY]; exact Int.emod_nonneg _ (by omega)
    have hY1 : Y < p := by rw [hY]; exact Int.emod_lt_of_pos _ hp0
    obtain ⟨Z, hZ⟩ : ∃ Z, Z = Y * (Y % 11183 + 419 * c') % 2305843009213693907 := ⟨_, rfl⟩
    have hZ0 : 0 ≤ Z := by rw [hZ]; exact Int.emod_nonneg _ (by omega)
    have hY2 := Int.emod_nonneg Y (b := 11183) (by omega)
    have hY3 := Int.emod_lt_of_pos Y (b := 11183) (by omega)
    have hB : B__law_take L0 s = some (.rt (.int (Z / 151 % u)), [some (.ref r), some (.int u), some (.int p), some (.int Z), none], s2) := by
      refine sq_nx (if_no (s' := s) ?_) (sq_nx (i_Put (s1 := s) (s2 := s) (s3 := s) (s4 := s1) (v := .int c') (o := .ref r) (i := .int 2) ?_ rfl rfl (put_L (k := 2) e (by simp))) (sq_nx (as_nm (s' := s2) (d := .int p) ?_) (sq_nx (as_nm (s' := s2) (d := .int Y) ?_) (sq_nx (as_nm (s' := s2) (d := .int Z) ?_) (rt_eq ?_)))))
      · simp -implicitDefEqProofs [L0, ix0, h0]
      · simp -implicitDefEqProofs [L0, ix2 e]
        rfl
      · have ixp : ∀ s', s'[s1.length]? = some (.lst primes) → ixD (.ref s1.length) (.int (c' % 5)) s' = some (.int p, s') := fun s' hs' => ix_L hs' hp
        have hl : fLst (fAc (fC (.int 2147483647)) (fAc (fC (.int 2147483629)) (fAc (fC (.int 2147483587)) (fAc (fC (.int 2147483579)) (fAc (fC (.int 2147483563)) fA0))))) L0 s1 = some (.ref s1.length, s2) := by
          simp -implicitDefEqProofs [sz]
          rfl
        rw [e_E2, hl]
        simp -implicitDefEqProofs [L0, ix2 e2, int_id, ixp s2 (by simp [s2])]
      · rw [hY, hX]
        simp -implicitDefEqProofs [L0, ix1 e2, ix2 e2, int_id, o_mod hp0, mul64 (i := 98693) (j := c') (by omega) (by omega), mul64 (i := 98693 * c') (j := c') (by omega) (by omega), pow3 (i := b + 98693 * c' * c' + 377) (by omega)]
      · rw [hZ]
        simp -implicitDefEqProofs [L0, ix2 e2, int_id, mul64 (i := 419) (j := c') (by omega) (by omega), mul64 (i := Y) (j := Y % 11183 + 419 * c') (by omega) (by omega)]
      · simp -implicitDefEqProofs [L0, int_id, fdiv_ok (show (0 : Int) < 151 by omega) (show (151 : Int) ≤ 1000000 by omega), o_mod (show 0 < u by omega)]
    have hd : Ds r s s2 := (Ds.set r s _).trans (Ds.of_gr (Gr.app s1 _))
    have fin := gc_pot (d := .int (Z / 151 % u)) rfl hd e2 (low_ints _ _ _ _)
    have hl : s2.take s.length = s1 := by
      have : s.length = s1.length := by simp [s1]
      rw [this]
      exact List.take_left
    rw [hl] at fin
    refine ⟨Z / 151 % u, s1, run_rt rfl hB fin, Int.emod_nonneg _ (by omega), Int.emod_lt_of_pos _ (by omega), ⟨a, b, c', e1, ha, hb, hb2, hc0, ?_⟩, Ds.set _ _ _, by simp [s1]⟩
    show c + 1 ≤ ((n + 1 : Nat) : Int)
    omega
end FL

set_option Elab.async false
set_option linter.all false
set_option maxRecDepth 100000
set_option autoImplicit false
namespace FL
open PySem PySem.Spec PyProof.Rows L2
theorem bit_l : (decide ((0 : Int) ≤ 60) && decide ((Builtin.Int.intBits 10 : Int) * 60 ≤ 134217728)) = true := by decide +kernel
theorem bit_m : (decide ((0 : Int) ≤ 5) && decide ((Builtin.Int.intBits (10 ^ 60) : Int) * 5 ≤ 134217728)) = true := by decide +kernel
theorem bit_n : (decide ((0 : Int) ≤ 18) && decide ((Builtin.Int.intBits 10 : Int) * 18 ≤ 134217728)) = true := by decide +kernel
def big : Int := (10 ^ 60) ^ 5
def e18 : Int := 10 ^ 18
theorem big_pos : 0 < big := by decide +kernel
theorem big_lt : big.natAbs < 2 ^ 1000 := by decide +kernel
theorem pow_ok {i j : Int} (h : (decide (0 ≤ j) && decide ((Builtin.Int.intBits i : Int) * j ≤ 134217728)) = true) (s : Sto) : powD (.int i) (.int j) s = some (.int (i ^ j.toNat), s) := by
  unfold powD
  simp only
  rw [if_pos h]
theorem f_big (L : Loc) (s : Sto) : fE2 powD (fE2 powD (fC (.int 10)) (fC (.int 60))) (fC (.int 5)) L s = some (.int big, s) := by
  have e1 : powD (.int 10) (.int 60) s = some (.int (10 ^ 60), s) := pow_ok bit_l s
  have e2 : powD (.int (10 ^ 60)) (.int 5) s = some (.int big, s) := pow_ok bit_m s
  rw [e_E2, e_E2, e_C]
  simp only [Option.bind_some, e_C]
  rw [e1]
  simp only [Option.bind_some]
  exact e2
theorem f_e18 (L : Loc) (s : Sto) : fE2 powD (fC (.int 10)) (fC (.int 18)) L s = some (.int e18, s) := by
  have e1 : powD (.int 10) (.int 18) s = some (.int e18, s) := pow_ok bit_n s
  rw [e_E2, e_C]
  simp only [Option.bind_some, e_C]
  exact e1
theorem mul_big {x : Int} (h0 : 0 ≤ x) (h1 : x < big) (b : Bool) (s : Sto) : mulD (.int x) (.int (if b then 1 else 0)) s = some (.int (x * (if b then 1 else 0)), s) := by
  have hb : Builtin.Int.intBits x ≤ 1000 := intBits_le_iff.mpr (by
    have := big_lt
    have e : big.natAbs = big.toNat := by have := big_pos; omega
    refine Nat.lt_trans ?_ this
    omega)
  have h2 : Builtin.Int.intBits (if b then 1 else 0) ≤ 64 := by
    cases b
    · exact bits64 (x := 0) (by omega)
    · exact bits64 (x := 1) (by omega)
  unfold mulD
  simp only
  rw [if_pos (mulOk_bits hb h2 (by omega))]
theorem abs_id (i : Int) (s : Sto) : absD [.int i] s = some (.int (if i < 0 then -i else i), s) := rfl
theorem pot_ok {ns : List Int} {place : Nat} (hp : place < 3) {s : Sto} (h : s[0]? = some (.rol (ns.map .int))) : ∃ t, F__law_pot [.ref 0, .int place] s = some (.ref s.length, t) ∧ Gr s t ∧ Pot s.length 0 t := by
  -- the cell
  have cell : ∃ cell : Int, fIf (fTb (fE2 ltD (fvar 1) (fCB lenD (fAc (fvar 0) fA0)))) (fE2 ixD (fvar 0) (fvar 1)) (fE2 addD (fE2 mulD (fC (.int 2111)) (fvar 1)) (fC (.int 883))) [some (.ref 0), some (.int place), none, none, none] s = some (.int cell, s) := by
    have l1 := b_lenR h
    by_cases hlt : place < ns.length
    · refine ⟨ns[place], ?_⟩
      have e : ixD (.ref 0) (.int (place : Int)) s = some (.int ns[place], s) := by
        have h0 : seqOf s (.ref 0) = some (ns.map .int) := by simp [seqOf, h]
        have ha : L2.atI (ns.map D.int) (place : Int) = some (.int ns[place]) := atI_nn (by rw [List.getElem?_map, List.getElem?_eq_getElem hlt]; rfl)
        unfold ixD
        simp only [h0, ha]
        rfl
      simp -implicitDefEqProofs [l1, e, hlt]
    · refine ⟨2111 * place + 883, ?_⟩
      simp -implicitDefEqProofs [l1, hlt, mul64 (i := 2111) (j := place) (by omega) (by omega)]
  obtain ⟨cell, hcell⟩ := cell
  obtain ⟨A, hA⟩ : ∃ A, A = (if cell < 0 then -cell else cell) := ⟨_, rfl⟩
  obtain ⟨own, hown⟩ : ∃ own, own = A % big * (if decide (e18 ≤ A) = true then 1 else 0) := ⟨_, rfl⟩
  have m0 := Int.emod_nonneg A (b := big) (by have := big_pos; omega)
  have m1 := Int.emod_lt_of_pos A big_pos
  have own0 : 0 ≤ own := by
    rw [hown]
    split
    · omega
    · omega
  obtain ⟨small, hsm⟩ : ∃ small, small = cell % 2305843009213693951 := ⟨_, rfl⟩
  have s0 : 0 ≤ small := by rw [hsm]; exact Int.emod_nonneg _ (by omega)
  have s1 : small < 2305843009213693951 := by rw [hsm]; exact Int.emod_lt_of_pos _ (by omega)
  obtain ⟨B, hB'⟩ : ∃ B, B = (small * 83483 + 6569 * (place : Int) * place + 563) % 2305843009213693921 := ⟨_, rfl⟩
  have b0 : 0 ≤ B := by rw [hB']; exact Int.emod_nonneg _ (by omega)
  have b1 : B < 2305843009213693921 := by rw [hB']; exact Int.emod_lt_of_pos _ (by omega)
  have hB : B__law_pot [some (.ref 0), some (.int place), none, none, none] s = some (.rt (.ref s.length), [some (.ref 0), some (.int place), some (.int cell), some (.int own), some (.int small)], s ++ [.lst [.int own, .int B, .int 0]]) := by
    refine sq_nx (as_nm hcell) (sq_nx (as_nm (s' := s) (d := .int own) ?_) (sq_nx (as_nm (s' := s) (d := .int small) ?_) (rt_eq ?_)))
    · have e1 : fE2 modD (fCB intD (fAc (fCB absD (fAc (fvar 2) fA0)) fA0)) (fE2 powD (fE2 powD (fC (.int 10)) (fC (.int 60))) (fC (.int 5))) [some (.ref 0), some (.int place), some (.int cell), none, none] s = some (.int (A % big), s) := by
        rw [e_E2]
        simp -implicitDefEqProofs only [e_CB, e_Ac, v_at (i := 2) (L := [some (.ref 0), some (.int place), some (.int cell), none, none]) (d := .int cell) rfl, Option.bind_some, e_A0, abs_id, int_id, f_big, ← hA]
        exact o_mod big_pos
      have e2 : fCB intD (fAc (fE2 geD (fCB absD (fAc (fvar 2) fA0)) (fE2 powD (fC (.int 10)) (fC (.int 18)))) fA0) [some (.ref 0), some (.int place), some (.int cell), none, none] s = some (.int (if decide (e18 ≤ A) = true then 1 else 0), s) := by
        simp -implicitDefEqProofs only [e_CB, e_Ac, e_E2, v_at (i := 2) (L := [some (.ref 0), some (.int place), some (.int cell), none, none]) (d := .int cell) rfl, Option.bind_some, e_A0, abs_id, f_e18, ← hA, o_ge]
        rw [← e_E2 powD (fC (.int 10)) (fC (.int 18))]
        rw [f_e18]
        simp only [Option.bind_some, o_ge]
        rfl
      show fE2 mulD _ _ _ s = _
      rw [e_E2]
      have e1' := e1
      simp only [List.set] at e1' ⊢
      rw [e1']
      simp only [Option.bind_some]
      have e2' := e2
      rw [e2']
      simp only [Option.bind_some]
      rw [hown]
      exact mul_big m0 m1 _ s
    · rw [hsm]
      simp -implicitDefEqProofs [int_id]
    · rw [hB']
      simp -implicitDefEqProofs [int_id, sz3, mul64 (i := small) (j := 83483) (by omega) (by omega), mul64 (i := 6569) (j := place) (by omega) (by omega), mul64 (i := 6569 * (place : Int)) (j := place) (by omega) (by omega)]
  have hl : s.length ≤ s.length := Nat.le_refl _
  refine ⟨_, run_rt rfl hB (gc_ref hl), Gr.app _ _, ⟨own, B, 0, by simp, own0, b0, by omega, Int.le_refl _, by omega⟩⟩
end FL

set_option Elab.async false
set_option linter.all false
set_option maxRecDepth 100000
set_option autoImplicit false
namespace FL
open PySem PySem.Spec PyProof.Rows L2
theorem lcl_gen {fg : FG} {ft : FT} {fe : FE} {L : Loc} {k : Nat} {c : List (Nat × O)} (I : Nat → List D → Sto → Prop) (hs : ∀ i acc s, I i acc s → stands c s = true) : ∀ (items : List D) (n : Nat) (acc : List D) (s : Sto),
    (∀ i d acc s, items[i]? = some d → I (n + i) acc s → ∃ L1 s1 b s2, fg d L s = some (L1, s1) ∧ ft L1 s1 = some (b, s2) ∧
      (b = true → acc.length < sizeLine ∧ ∃ y s3, fe L1 s2 = some (y, s3) ∧ s3[k]? = some (.lst acc) ∧ I (n + i + 1) (acc ++ [y]) (s3.set k (.lst (acc ++ [y])))) ∧ (b = false → I (n + i + 1) acc s2)) →
    I n acc s → ∃ acc' s', fLcl fg ft fe c k L items s = some s' ∧ I (n + items.length) acc' s'
  | [], n, acc, s, _, h0 => ⟨acc, s, by rw [fLcl, if_pos (hs n acc s h0)], h0⟩
  | d :: r, n, acc, s, st, h0 => by
    obtain ⟨L1, s1, b, s2, e1, e2, hy, hn⟩ := st 0 d acc s rfl h0
    have rest : ∀ acc s, I (n + 0 + 1) acc s → ∃ acc' s', fLcl fg ft fe c k L r s = some s' ∧ I (n + (r.length + 1)) acc' s' := by
      intro acc s h
      obtain ⟨acc', s', e5, h2⟩ := lcl_gen I hs r (n + 1) acc s (fun i d acc s hd hi => by
        have e : n + 1 + i = n + (i + 1) := by omega
        rw [e] at hi ⊢
        exact st (i + 1) d acc s hd hi) h
      have e : n + (r.length + 1) = n + 1 + r.length := by omega
      rw [e]
      exact ⟨acc', s', e5, h2⟩
    rw [List.length_cons]
    cases b with
    | true =>
      obtain ⟨hz, y, s3, e3, e4, h1⟩ := hy rfl
      obtain ⟨acc', s', e5, h2⟩ := rest _ _ h1
      refine ⟨acc', s', ?_, h2⟩
      rw [fLcl, if_pos (hs n acc s h0), e1]
      simp only [Option.bind_some, e2, if_true, e3, e4]
      rw [if_pos hz]
      exact e5
    | false =>
      obtain ⟨acc', s', e5, h2⟩ := rest _ _ (hn rfl)
      refine ⟨acc', s', ?_, h2⟩
      rw [fLcl, if_pos (hs n acc s h0), e1]
      simp only [Option.bind_some, e2, Bool.false_eq_true, if_false]
      exact e5
theorem lc_gen {fi : FI} {fg : FG} {ft : FT} {fe : FE} {vs : List Nat} {L : Loc} {s s0 : Sto} {items : List D} {c : List (Nat × O)} (h : fi L s = some (⟨items, c⟩, s0)) (I : Nat → List D → Sto → Prop) (hs : ∀ i acc s, I i acc s → stands c s = true)
    (st : ∀ i d acc s, items[i]? = some d → I i acc s → ∃ L1 s1 b s2, fg d (wipeL L vs) s = some (L1, s1) ∧ ft L1 s1 = some (b, s2) ∧
      (b = true → acc.length < sizeLine ∧ ∃ y s3, fe L1 s2 = some (y, s3) ∧ s3[s0.length]? = some (.lst acc) ∧ I (i + 1) (acc ++ [y]) (s3.set s0.length (.lst (acc ++ [y])))) ∧ (b = false → I (i + 1) acc s2))
    (h0 : I 0 [] (s0 ++ [.lst []])) : ∃ acc' s', fLc fi fg ft fe vs L s = some (.ref s0.length, s') ∧ I items.length acc' s' := by
  obtain ⟨acc', s', e, h1⟩ := lcl_gen (L := wipeL L vs) (k := s0.length) I hs items 0 [] (s0 ++ [.lst []]) (fun i d acc s hd hi => by
    rw [Nat.zero_add] at hi ⊢
    exact st i d acc s hd hi) h0
  rw [Nat.zero_add] at h1
  refine ⟨acc', s', ?_, h1⟩
  unfold fLc
  rw [h]
  simp only [Option.bind_some, e]
theorem Ds.setN {r k : Nat} {s t : Sto} (a : Ds r s t) (hk : s.length ≤ k) (o : O) : Ds r s (t.set k o) := ⟨by simp; exact a.le, fun i hi hr => by
  rw [List.getElem?_set_ne (by omega), a.eq i hi hr]⟩
theorem if_yes {c : FT} {f g : FE} {L : Loc} {s s' : Sto} {r : Option (D × Sto)} (h : c L s = some (true, s')) (h2 : f L s' = r) : fIf c f g L s = r := by
  rw [e_If, h]
  exact h2
theorem if_not {c : FT} {f g : FE} {L : Loc} {s s' : Sto} {r : Option (D × Sto)} (h : c L s = some (false, s')) (h2 : g L s' = r) : fIf c f g L s = r := by
  rw [e_If, h]
  exact h2
theorem tup_of {f : FE} {L : Loc} {s s' : Sto} {n : Nat} {ds : List D} (h : f L s = some (.ref n, s')) (h2 : s'[n]? = some (.lst ds)) : fCB tupD (fAc f fA0) L s = some (.ft ds, s') := by
  rw [e_CB, e_Ac, h]
  exact tup_lst h2
/-! ### drawn phases -/
structure Phs (R : Nat) (ns : List Int) : Prop where
  ne : ns ≠ []
  rng : ∀ x ∈ ns, 0 ≤ x ∧ x < (R : Int)
  asc : ns.Pairwise (· < ·)
  len : ns.length ≤ 12
theorem phases_ok {r n R : Nat} {s : Sto} (h : Pot r n s) (hn : n + R + 1 ≤ 1000) (hR : 1 ≤ R) (hR2 : R ≤ 12) :
    ∃ ns s', F__law_phases [.ref r, .int R] s = some (.ft (ns.map .int), s') ∧ Phs R ns ∧ Pot r (n + R + 1) s' ∧ Ds r s s' ∧ s'.length = s.length := by
  have hr := h.lt
  let L0 : Loc := [some (.ref r), some (.int R), none, none]
  obtain ⟨acc, t, e1, ⟨ds, pt, hk, ns, hacc, asc, rng, len⟩⟩ := lc_gen (fi := fRng1 (fAc (fvar 1) fA0)) (fg := fNm 3) (ft := fTb (fE2 eqD (fCall F__law_take (fAc (fvar 0) (fAc (fC (.int 3)) fA0))) (fC (.int 0)))) (fe := fvar 3) (vs := [3]) (L := L0) (s := s) (s0 := s) (items := (List.range R).map fun i => D.int (i : Nat)) (c := [])
    (i_Rng1 rfl (by omega))
    (fun i acc s' => Ds r s s' ∧ Pot r (n + i) s' ∧ s'[s.length]? = some (.lst acc) ∧ ∃ ns : List Int, acc = ns.map .int ∧ ns.Pairwise (· < ·) ∧ (∀ x ∈ ns, 0 ≤ x ∧ x < (i : Int)) ∧ ns.length ≤ i)
    (fun _ _ _ _ => rfl) (by
      intro i d acc s' hd ⟨ds, pt, hk, ns, hacc, asc, rng, len⟩
      have hi : i < R := by
        have := (List.getElem?_eq_some_iff.mp hd).1
        simpa using this
      rw [List.getElem?_map, List.getElem?_range hi] at hd
      cases hd
      obtain ⟨d, s2, t1, t2, t3, t4, t5, t6⟩ := take_ok (u := 3) pt (by omega) (by omega) (by omega)
      refine ⟨[some (.ref r), some (.int R), none, some (.int i)], s', decide (d = 0), s2, rfl, ?_, ?_, ?_⟩
      · simp -implicitDefEqProofs [t1]
      · intro _
        have hk2 : s2[s.length]? = some (.lst acc) := t5.at' (by omega) hk
        have hk3 := (List.getElem?_eq_some_iff.mp hk2).1
        refine ⟨by rw [hacc, sizeLine_eq, List.length_map]; omega, .int i, s2, rfl, hk2, ⟨(ds.trans t5).setN (Nat.le_refl _) _, ?_, ?_, ns ++ [(i : Int)], by rw [hacc, List.map_append]; rfl, ?_, ?_, by simp; omega⟩⟩
        · exact (t4.set (by omega) _).mono (by omega)
        · rw [List.getElem?_set_self hk3]
        · rw [List.pairwise_append]
          refine ⟨asc, by simp, fun a ha b hb => ?_⟩
          simp only [List.mem_cons, List.not_mem_nil, or_false] at hb
          subst hb
          exact (rng a ha).2
        · intro x hx
          rcases List.mem_append.mp hx with hx | hx
          · have := rng x hx
            omega
          · simp only [List.mem_cons, List.not_mem_nil, or_false] at hx
            subst hx
            omega
      · intro _
        exact ⟨ds.trans t5, t4.mono (by omega), t5.at' (by omega) hk, ns, hacc, asc, fun x hx => by have := rng x hx; omega, by omega⟩)
    ⟨Ds.of_gr (Gr.app _ _), h.gr (Gr.app _ _), by simp, [], rfl, List.Pairwise.nil, by simp, by simp⟩
  simp only [List.length_map, List.length_range] at pt rng len
  have p1 : fAs (fLc (fRng1 (fAc (fvar 1) fA0)) (fNm 3) (fTb (fE2 eqD (fCall F__law_take (fAc (fvar 0) (fAc (fC (.int 3)) fA0))) (fC (.int 0)))) (fvar 3) [3]) (fNm 2) L0 s = some (.nx, [some (.ref r), some (.int R), some (.ref s.length), none], t) := as_nm e1
  obtain ⟨t1, ht1⟩ : ∃ t1, t1 = t ++ [O.lst []] := ⟨_, rfl⟩
  have g1 : Gr t t1 := ⟨_, ht1⟩
  have hk1 := g1.at hk
  have test : fTb (fE2 neD (fvar 2) (fLst fA0)) [some (.ref r), some (.int R), some (.ref s.length), none] t = some (!decide (acc = []), t1) := by
    have n1 := ne_nil (a := s.length) (b := t.length) (xs := acc) (s := t1) hk1 (by rw [ht1]; simp) (by rw [hacc]; exact pures_int _)
    simp -implicitDefEqProofs [sz]
    rw [← ht1, n1]
    rfl
  have ds1 := ds.trans (Ds.of_gr g1)
  by_cases hns : ns = []
  · have hacc0 : acc = [] := by rw [hacc, hns]; rfl
    rw [hacc0] at test
    obtain ⟨d, s2, q1, q2, q3, q4, q5, q6⟩ := take_ok (u := R) (pt.gr g1) (by omega) (by omega) (by omega)
    have hB : B__law_phases L0 s = some (.rt (.ft [.int d]), [some (.ref r), some (.int R), some (.ref s.length), none], s2 ++ [.lst [.int d]]) := by
      refine sq_nx p1 (rt_eq (tup_of (if_not (s' := t1) test ?_) (n := s2.length) (by simp)))
      simp -implicitDefEqProofs [q1, sz1]
    have q5' := (ds1.trans q5).trans (Ds.of_gr (Gr.app s2 [.lst [.int d]]))
    have q4' := q4.gr (Gr.app s2 [.lst [.int d]])
    obtain ⟨a, b, c, ep, _⟩ := q4'.ex
    have fin := gc_pot (d := .ft [.int d]) rfl q5' ep (low_ints _ _ _ _)
    refine ⟨[d], _, run_rt rfl hB fin, ⟨by simp, by simp; omega, by simp, by simp⟩, (q4'.take hr).mono (by omega), q5'.take, by have := q5'.le; simp at this ⊢; omega⟩
  · have hacc0 : ¬ acc = [] := by
      rw [hacc]
      simpa using hns
    rw [decide_eq_false hacc0] at test
    have hB : B__law_phases L0 s = some (.rt (.ft acc), [some (.ref r), some (.int R), some (.ref s.length), none], t1) :=
      sq_nx p1 (rt_eq (tup_of (if_yes (s' := t1) test rfl) (n := s.length) hk1))
    have pt1 := pt.gr g1
    obtain ⟨a, b, c, ep, _⟩ := pt1.ex
    have fin := gc_pot (d := .ft acc) (by rw [hacc]; exact pures_int _) ds1 ep (low_ints _ _ _ _)
    rw [hacc] at fin hB
    refine ⟨ns, _, run_rt rfl hB fin, ⟨hns, rng, asc, by omega⟩, (pt1.take hr).mono (by omega), ds1.take, by have := ds1.le; simp; omega⟩
/-! ### gaps -/
def gap (ns : List Int) (R : Nat) (j : Nat) : Int := (ns.getD ((j + 1) % ns.length) 0 - ns.getD j 0 - 1) % (R : Int) + 1
theorem enumT_at : ∀ (k : Nat) (ds : List D) (i : Nat) (d : D), ds[i]? = some d → (enumT k ds)[i]? = some (.tup [.int ((k + i : Nat) : Int), d])
  | k, [], i, d, h => by simp at h
  | k, c :: ds, 0, d, h => by
    simp at h
    subst h
    simp [enumT]
  | k, c :: ds, i + 1, d, h => by
    have := enumT_at (k + 1) ds i d (by simpa using h)
    rw [enumT, List.getElem?_cons_succ, this, show k + 1 + i = k + (i + 1) by omega]
theorem gaps_ok {R : Nat} {ns : List Int} (hR : 1 ≤ R) (hl : ns.length ≤ 100) (hne : ns ≠ []) (s : Sto) : ∃ t, F__law_gaps [.ft (ns.map .int), .int R] s = some (.ref s.length, t) ∧ Gr s t ∧ t[s.length]? = some (.lst ((List.range ns.length).map fun j => .int (gap ns R j))) := by
  have hRi : (0 : Int) < R := by omega
  have hlen : 0 < ns.length := List.length_pos_iff.mpr hne
  have at' : ∀ {j : Nat}, j < ns.length → ∀ s, ixD (.ft (ns.map .int)) (.int (j : Int)) s = some (.int (ns.getD j 0), s) := fun {j} hj s => ix_F (atI_nn (by
    rw [List.getElem?_map, List.getElem?_eq_getElem hj, List.getD_eq_getElem?_getD, List.getElem?_eq_getElem hj]
    rfl)) s
  let gL : Nat → Option D → Option D → Option D → Loc := fun n x3 x4 x5 => [some (.ft (ns.map .int)), some (.int R), some (.ref n), x3, x4, x5]
  have p1 : fAs (fLst fA0) (fNm 2) [some (.ft (ns.map .int)), some (.int R), none, none, none, none] s = some (.nx, gL s.length none none none, s ++ [.lst []]) := by
    simp -implicitDefEqProofs [gL, sz]
  have eI : fEnum (fAc (fvar 0) fA0) (gL s.length none none none) (s ++ [.lst []]) = some (⟨enumT 0 (ns.map .int), []⟩, s ++ [.lst []]) := by
    unfold fEnum
    simp -implicitDefEqProofs [gL, seqK]
  obtain ⟨L', t, e1, ⟨⟨x3, x4, x5, hL⟩, g, hk⟩⟩ := for_inv (fg := fGt 2 (fGc (fNm 3) (fGc (fNm 4) fG0))) (fb := fSq (fAs (fE2 ixD (fvar 0) (fE2 modD (fCB intD (fAc (fE2 addD (fvar 3) (fC (.int 1))) fA0)) (fCB lenD (fAc (fvar 0) fA0)))) (fNm 5))
    (fEx (fM "list" appD (fvar 2) (fAc (fE2 addD (fE2 modD (fCB intD (fAc (fE2 subD (fE2 subD (fvar 5) (fvar 4)) (fC (.int 1))) fA0)) (fvar 1)) (fC (.int 1))) fA0)))) eI
    (fun j L s' => (∃ x3 x4 x5, L = gL s.length x3 x4 x5) ∧ Gr s s' ∧ s'[s.length]? = some (.lst ((List.range j).map fun j => .int (gap ns R j)))) (fun _ _ _ _ => rfl) (by
      intro j d L s' hd ⟨⟨x3, x4, x5, hL⟩, g, hk⟩
      subst hL
      have hj : j < ns.length := by
        have := (List.getElem?_eq_some_iff.mp hd).1
        rw [enumT_len, List.length_map] at this
        exact this
      rw [enumT_at 0 _ j (.int (ns.getD j 0)) (by
        rw [List.getElem?_map, List.getElem?_eq_getElem hj, List.getD_eq_getElem?_getD, List.getElem?_eq_getElem hj]
        rfl), Nat.zero_add] at hd
      cases hd
      have hmod : ((j : Int) + 1) % (ns.length : Int) = (((j + 1) % ns.length : Nat) : Int) := by
        rw [Int.natCast_emod]
        rfl
      have a1 := at' (j := (j + 1) % ns.length) (Nat.mod_lt _ hlen) s'
      rw [← hmod] at a1
      refine ⟨gL s.length (some (.int j)) (some (.int (ns.getD j 0))) x5, s', gL s.length (some (.int j)) (some (.int (ns.getD j 0))) (some (.int (ns.getD ((j + 1) % ns.length) 0))), _, rfl, sq_nx (as_nm (s' := s') (d := .int (ns.getD ((j + 1) % ns.length) 0)) ?_) (i_AppS (x := .int (gap ns R j)) rfl ?_ hk (by simp; omega)), ⟨_, _, _, rfl⟩, g.set (Nat.le_refl _) _, ?_⟩
      · simp -implicitDefEqProofs [gL, int_id, o_mod (show (0 : Int) < ns.length by omega), a1]
      · simp -implicitDefEqProofs [gL, int_id, o_mod hRi, gap]
      · rw [List.getElem?_set_self (List.getElem?_eq_some_iff.mp hk).1, List.range_succ, List.map_append]
        rfl) ⟨⟨none, none, none, rfl⟩, Gr.app _ _, by simp⟩
  subst hL
  rw [enumT_len, List.length_map] at hk
  have hB : B__law_gaps [some (.ft (ns.map .int)), some (.int R), none, none, none, none] s = some (.rt (.ref s.length), gL s.length x3 x4 x5, t) := sq_nx p1 (sq_nx e1 (rt_eq rfl))
  exact ⟨t, run_rt rfl hB (gc_ref (Nat.le_refl _)), g, hk⟩
/-! ### the law's trip -/
theorem tripL_snoc (w : Wd) : ∀ (n i : Nat) (t : Int), tripL w (n + 1) i t = tripL w n i t ++ [leg w (i + n) (fin w n i t)]
  | 0, i, t => rfl
  | n + 1, i, t => by
    have e : tripL w (n + 1 + 1) i t = leg w i t :: tripL w (n + 1) (i + 1) (arr w i t) := rfl
    rw [e, tripL_snoc w n (i + 1)]
    have e2 : tripL w (n + 1) i t = leg w i t :: tripL w n (i + 1) (arr w i t) := rfl
    rw [e2, List.cons_append]
    have e3 : i + 1 + n = i + (n + 1) := by omega
    rw [e3]
    rfl
theorem fin_le {w : Wd} (o : w.Ok) {x : Nat} (hx : x ≤ 5) (t : Int) : fin w x 0 t ≤ t + 100 := by
  have := (fin_bd o x 0 t).2
  omega
theorem trip_law {w : Wd} (o : w.Ok) {k c : Nat} {s : Sto} (h : Kn w k s) (hk : k < s.length) (hc : s[c]? = some (.lst (cells w.m))) {t : Int} (h0 : 0 ≤ t) (h1 : t ≤ 9999) :
    F__law_trip [.ref k, .int w.R, .ref c, .int t] s = some (.tup [.ft (tripL w (w.m - 1) 0 t), .int (fin w (w.m - 1) 0 t)], s) := by
  have m2 := o.m2
  have m6 := o.m6
  have hcl := (List.getElem?_eq_some_iff.mp hc).1
  let tL : Int → Nat → Option D → Option D → Loc := fun here n x6 x7 => [some (.ref k), some (.int w.R), some (.ref c), some (.int t), some (.ref n), some (.int here), x6, x7]
  let s1 : Sto := s ++ [.lst []]
  have p1 : fPar 4 5 (fAc (fLst fA0) (fAc (fvar 3) fA0)) [some (.ref k), some (.int w.R), some (.ref c), some (.int t), none, none, none, none] s = some (.nx, tL t s.length none none, s1) := by
    simp -implicitDefEqProofs [tL, sz]
    rfl
  have g1 : Gr s s1 := Gr.app _ _
  have hc1 := g1.at hc
  let s2 : Sto := s1 ++ [.lst (cells w.m).tail]
  have g2 : Gr s1 s2 := Gr.app _ _
  have hc2 := g2.at hc1
  have hs1 : s1.length = s.length + 1 := by simp [s1]
  have eI : fZip (fAc (fvar 2) (fAc (fSl (fvar 2) (fO1 (fC (.int 1))) fO0) fA0)) (tL t s.length none none) s1 = some (⟨ways w.m, [(c, .lst (cells w.m)), (s1.length, .lst (cells w.m).tail)]⟩, s2) := by
    have e1 : slD (.ref c) (some 1) none s1 = some (.ref s1.length, s2) := by
      simp [slD, hc1, cut_tail]
      rfl
    have e2 : s2[s1.length]? = some (.lst (cells w.m).tail) := by simp [s2]
    unfold fZip
    simp -implicitDefEqProofs [tL, e1, zipF, seqK, hc2, e2, zip_cells]
  have hT : ∀ x, x ≤ w.m - 1 → (tripL w x 0 t).length ≤ 1000 := fun x hx => by rw [tripL_len]; omega
  obtain ⟨L', u, e1, ⟨⟨x6, x7, hL⟩, g, hk'⟩⟩ := for_inv (fg := fNm 6) (fb := fSq (fAs (fCall F__law_goes (fAc (fvar 0) (fAc (fvar 1) (fAc (fvar 6) (fAc (fvar 5) fA0))))) (fGt 2 (fGc (fNm 7) (fGc (fNm 5) fG0))))
    (fEx (fM "list" appD (fvar 4) (fAc (fE2 addD (fTup (fAc (fvar 7) fA0)) (fvar 6)) fA0)))) eI
    (fun x L s' => (∃ x6 x7, L = tL (fin w x 0 t) s.length x6 x7) ∧ (Gr s s' ∧ s'[s1.length]? = some (.lst (cells w.m).tail)) ∧ s'[s.length]? = some (.lst (tripL w x 0 t)))
    (fun x L s' ⟨_, ⟨g, hz⟩, _⟩ => stands_of fun z hz' => by
      simp only [List.mem_cons, List.not_mem_nil, or_false] at hz'
      rcases hz' with rfl | rfl
      · exact g.at hc
      · exact hz) (by
      intro x d L s' hd ⟨⟨x6, x7, hL⟩, ⟨g, hz⟩, hk'⟩
      subst hL
      have hx : x < w.m - 1 := by
        have := (List.getElem?_eq_some_iff.mp hd).1
        simpa [ways] using this
      have hd' : d = wy x := by
        unfold ways at hd
        rw [List.getElem?_map, List.getElem?_range hx] at hd
        exact (Option.some.inj hd).symm
      subst hd'
      have hge := fin_ge o x 0 t
      have hle := fin_le o (x := x) (by omega) t
      have c1 := f_goes o (h.grow hk g) hx (t := fin w x 0 t) (by omega) (by omega)
      have c2 := fin_succ w x 0 t
      rw [Nat.zero_add] at c2
      refine ⟨tL (fin w x 0 t) s.length (some (wy x)) x7, s', tL (fin w (x + 1) 0 t) s.length (some (wy x)) (some (.int (go w x (fin w x 0 t)))), _, rfl, sq_nx (L' := tL (fin w (x + 1) 0 t) s.length (some (wy x)) (some (.int (go w x (fin w x 0 t))))) (s' := s') ?_ (i_AppS (x := leg w x (fin w x 0 t)) rfl ?_ hk' (hT x (by omega))), ⟨_, _, rfl⟩, ⟨g.set (Nat.le_refl _) _, ?_⟩, ?_⟩
      · simp -implicitDefEqProofs [tL, c1, c2]
      · simp -implicitDefEqProofs [tL, sz1, wy, leg, addD, sz]
      · rw [List.getElem?_set_ne (by omega)]
        exact hz
      · rw [List.getElem?_set_self (List.getElem?_eq_some_iff.mp hk').1, tripL_snoc, Nat.zero_add]) ⟨⟨none, none, rfl⟩, ⟨g1.trans g2, by simp [s2]⟩, by
        show s2[s.length]? = _
        rw [List.getElem?_append_left (by omega)]
        simp [s1, tripL]⟩
  subst hL
  have lw : (ways w.m).length = w.m - 1 := by simp [ways]
  rw [lw] at hk'
  have fin' := g.1.finP (d := .tup [.ft (tripL w (w.m - 1) 0 t), .int (fin w (w.m - 1) 0 t)]) (by simp [D.pure, D.pures, tripL_pure])
  have hB : B__law_trip [some (.ref k), some (.int w.R), some (.ref c), some (.int t), none, none, none, none] s = some (.rt (.tup [.ft (tripL w (w.m - 1) 0 t), .int (fin w (w.m - 1) 0 t)]), tL (fin w (ways w.m).length 0 t) s.length x6 x7, u) := by
    refine sq_nx p1 (sq_nx e1 (rt_eq ?_))
    rw [lw]
    simp -implicitDefEqProofs [tL, tup_lst hk', sz2]
  exact run_rt rfl hB fin'
end FL

set_option Elab.async false
set_option linter.all false
set_option maxRecDepth 100000
set_option autoImplicit false
namespace FL
open PySem PySem.Spec PyProof.Rows L2
/-! ### the waits over a round -/
def wait (w : Wd) (i : Nat) (t : Int) : Int := go w i t - t
def SWt (w : Wd) (i : Nat) : Nat → Int → Int
  | 0, _ => 0
  | n + 1, t => wait w i t + SWt w i n (t + 1)
theorem SWt_add (w : Wd) (i : Nat) : ∀ (a b : Nat) (t : Int), SWt w i (a + b) t = SWt w i a t + SWt w i b (t + a)
  | 0, b, t => by
    have e : t + ((0 : Nat) : Int) = t := by omega
    rw [Nat.zero_add, SWt, e]
    omega
  | a + 1, b, t => by
    have e : a + 1 + b = (a + b) + 1 := by omega
    have e2 : t + 1 + (a : Int) = t + ((a + 1 : Nat) : Int) := by omega
    rw [e, SWt, SWt, SWt_add w i a b, e2]
    omega
theorem wait_add {w : Wd} (o : w.Ok) (i : Nat) (t : Int) : wait w i (t + w.R) = wait w i t := by
  unfold wait
  rw [go_add o]
  omega
theorem SWt_next {w : Wd} (o : w.Ok) (i : Nat) (t : Int) : SWt w i w.R (t + 1) = SWt w i w.R t := by
  have h1 := SWt_add w i w.R 1 t
  have h2 : SWt w i (w.R + 1) t = wait w i t + SWt w i w.R (t + 1) := rfl
  have h3 : SWt w i 1 (t + w.R) = wait w i (t + w.R) := by
    show wait w i (t + w.R) + 0 = _
    omega
  have := wait_add o i t
  omega
theorem SWt_nat {w : Wd} (o : w.Ok) (i : Nat) (t : Int) : ∀ k : Nat, SWt w i w.R (t + k) = SWt w i w.R t
  | 0 => by simp
  | k + 1 => by
    have e : t + ((k + 1 : Nat) : Int) = t + k + 1 := by omega
    rw [e, SWt_next o, SWt_nat o i t k]
theorem SWt_any {w : Wd} (o : w.Ok) (i : Nat) (t u : Int) : SWt w i w.R t = SWt w i w.R u := by
  rcases Int.le_total t u with h | h
  · have := SWt_nat o i t (u - t).toNat
    have e : t + ((u - t).toNat : Int) = u := by omega
    rw [e] at this
    exact this.symm
  · have := SWt_nat o i u (t - u).toNat
    have e : u + ((t - u).toNat : Int) = t := by omega
    rw [e] at this
    exact this
theorem SWt_seg {w : Wd} (o : w.Ok) (i : Nat) : ∀ (n : Nat) (t : Int), opn w i (t + n) = true → (∀ u, t ≤ u → u < t + n → opn w i u = false) → 2 * SWt w i (n + 1) t = (n + 1 : Int) * n
  | 0, t, h, _ => by
    have e : t + ((0 : Nat) : Int) = t := by omega
    rw [e] at h
    have := go_self o h
    simp [SWt, wait, this]
  | n + 1, t, h, hn => by
    have hg : go w i t = t + ((n + 1 : Nat) : Int) := go_eq o (by omega) h fun u h1 h2 => hn u h1 h2
    have ih := SWt_seg o i n (t + 1) (by
      have e : t + 1 + (n : Int) = t + ((n + 1 : Nat) : Int) := by omega
      rw [e]
      exact h) fun u h1 h2 => hn u (by omega) (by omega)
    rw [SWt]
    unfold wait
    rw [hg]
    have e1 : ((n + 1 : Nat) : Int) = n + 1 := by omega
    rw [e1]
    have e2 : ((n : Int) + 1 + 1) * (n + 1) = (n + 1) * n + 2 * (n + 1) := by
      have e3 : (n : Int) + 1 + 1 = n + 2 := by omega
      rw [Int.mul_comm, e3, Int.mul_add, Int.mul_comm 2]
    rw [e2]
    omega
theorem sum_SW (w : Wd) (i : Nat) : ∀ (n : Nat) (t : Int), ((List.range n).map fun k : Nat => go w i (t + k) - (t + k)).sum = SWt w i n t
  | 0, t => rfl
  | n + 1, t => by
    rw [List.range_succ_eq_map, List.map_cons, List.sum_cons, List.map_map, SWt, ← sum_SW w i n (t + 1)]
    have e0 : t + ((0 : Nat) : Int) = t := by omega
    rw [e0]
    unfold wait
    congr 1
    congr 1
    refine List.map_congr_left fun k _ => ?_
    have e : t + ((Nat.succ k : Nat) : Int) = t + 1 + (k : Int) := by omega
    simp only [Function.comp_apply, e]
/-- the phases, one behind the other, and the first of the next round -/
def xs (ns : List Int) (R : Nat) (j : Nat) : Int := if j < ns.length then ns.getD j 0 else ns.getD 0 0 + R
theorem getD_mem {ns : List Int} {j : Nat} (h : j < ns.length) : ns.getD j 0 ∈ ns := by
  rw [List.getD_eq_getElem?_getD, List.getElem?_eq_getElem h]
  exact List.getElem_mem h
theorem asc_at {ns : List Int} (h : ns.Pairwise (· < ·)) {i j : Nat} (hij : i < j) (hj : j < ns.length) : ns.getD i 0 < ns.getD j 0 := by
  rw [List.getD_eq_getElem?_getD, List.getD_eq_getElem?_getD, List.getElem?_eq_getElem hj, List.getElem?_eq_getElem (by omega)]
  exact List.pairwise_iff_getElem.mp h i j (by omega) hj hij
theorem mem_at {ns : List Int} {u : Int} (h : u ∈ ns) : ∃ j, j < ns.length ∧ u = ns.getD j 0 := by
  obtain ⟨j, hj, rfl⟩ := List.getElem_of_mem h
  refine ⟨j, hj, ?_⟩
  rw [List.getD_eq_getElem?_getD, List.getElem?_eq_getElem hj]
  rfl
theorem gap_xs {R : Nat} {ns : List Int} (q : Phs R ns) {j : Nat} (hj : j < ns.length) : gap ns R j = xs ns R (j + 1) - xs ns R j ∧ xs ns R j < xs ns R (j + 1) := by
  have hl : 0 < ns.length := List.length_pos_iff.mpr q.ne
  unfold gap
  by_cases h : j + 1 < ns.length
  · have e1 : (j + 1) % ns.length = j + 1 := Nat.mod_eq_of_lt h
    have h1 := asc_at q.asc (i := j) (j := j + 1) (by omega) h
    have h2 := (q.rng _ (getD_mem hj)).1
    have h3 := (q.rng _ (getD_mem h)).2
    unfold xs
    rw [e1, if_pos hj, if_pos h, Int.emod_eq_of_lt (by omega) (by omega)]
    omega
  · have e0 : j + 1 = ns.length := by omega
    have e1 : (j + 1) % ns.length = 0 := by rw [e0, Nat.mod_self]
    have h1 : ns.getD 0 0 ≤ ns.getD j 0 := by
      by_cases hj0 : j = 0
      · rw [hj0]
        exact Int.le_refl _
      · exact Int.le_of_lt (asc_at q.asc (i := 0) (j := j) (by omega) hj)
    have h2 := (q.rng _ (getD_mem hj)).2
    have h3 := (q.rng _ (getD_mem hl)).1
    unfold xs
    rw [e1, if_pos hj, if_neg h]
    have e2 : ns.getD 0 0 - ns.getD j 0 - 1 = (ns.getD 0 0 - ns.getD j 0 - 1 + R) + R * (-1) := by omega
    rw [e2, Int.add_mul_emod_self_left, Int.emod_eq_of_lt (by omega) (by omega)]
    omega
theorem seg_open {w : Wd} (o : w.Ok) {i : Nat} {z : List Int × Int} (hz : w.g i = some z) (q : Phs w.R z.1) {j : Nat} (hj : j < z.1.length) : opn w i (xs z.1 w.R (j + 1)) = true ∧ ∀ u, xs z.1 w.R j + 1 ≤ u → u < xs z.1 w.R (j + 1) → opn w i u = false := by
  have hl : 0 < z.1.length := List.length_pos_iff.mpr q.ne
  have op : ∀ u, opn w i u = decide (u % (w.R : Int) ∈ z.1) := fun u => by unfold opn; rw [hz]
  by_cases h : j + 1 < z.1.length
  · have m1 := getD_mem h
    have r1 := q.rng _ m1
    have r0 := q.rng _ (getD_mem hj)
    have e1 : xs z.1 w.R (j + 1) = z.1.getD (j + 1) 0 := if_pos h
    have e0 : xs z.1 w.R j = z.1.getD j 0 := if_pos hj
    rw [e1, e0]
    refine ⟨?_, fun u h1 h2 => ?_⟩
    · rw [op, decide_eq_true_eq, Int.emod_eq_of_lt r1.1 r1.2]
      exact m1
    · rw [op, decide_eq_false_iff_not, Int.emod_eq_of_lt (by omega) (by omega)]
      intro hm
      obtain ⟨k, hk, rfl⟩ := mem_at hm
      rcases Nat.lt_trichotomy k (j + 1) with c | c | c
      · by_cases c2 : k = j
        · rw [c2] at h1; omega
        · have := asc_at q.asc (i := k) (j := j) (by omega) hj
          omega
      · rw [c] at h2; omega
      · have := asc_at q.asc (i := j + 1) (j := k) c hk
        omega
  · have m0 := getD_mem hl
    have r1 := q.rng _ m0
    have r0 := q.rng _ (getD_mem hj)
    have e1 : xs z.1 w.R (j + 1) = z.1.getD 0 0 + w.R := if_neg h
    have e0 : xs z.1 w.R j = z.1.getD j 0 := if_pos hj
    rw [e1, e0]
    refine ⟨?_, fun u h1 h2 => ?_⟩
    · rw [op, decide_eq_true_eq, Int.add_emod_right, Int.emod_eq_of_lt r1.1 r1.2]
      exact m0
    · rw [op, decide_eq_false_iff_not]
      intro hm
      obtain ⟨k, hk, hk2⟩ := mem_at hm
      by_cases c : u < w.R
      · rw [Int.emod_eq_of_lt (by omega) c] at hk2
        by_cases c2 : k = j
        · rw [c2] at hk2; omega
        · have := asc_at q.asc (i := k) (j := j) (by omega) hj
          omega
      · have e2 : u % (w.R : Int) = u - w.R := by
          have e3 : u = (u - w.R) + w.R := by omega
          rw [e3, Int.add_emod_right, Int.emod_eq_of_lt (by omega) (by omega)]
          omega
        rw [e2] at hk2
        by_cases c2 : k = 0
        · rw [c2] at hk2; omega
        · have := asc_at q.asc (i := 0) (j := k) (by omega) hk
          omega
/-- the law of the waits -/
theorem waits_gaps {w : Wd} (o : w.Ok) {i : Nat} {z : List Int × Int} (hz : w.g i = some z) (q : Phs w.R z.1) (b : Int) :
    ((List.range z.1.length).map (gap z.1 w.R)).sum = w.R ∧ 2 * ((List.range w.R).map fun k : Nat => go w i (b + k) - (b + k)).sum = ((List.range z.1.length).map fun j => gap z.1 w.R j * (gap z.1 w.R j - 1)).sum := by
  have hl : 0 < z.1.length := List.length_pos_iff.mpr q.ne
  have key : ∀ j, j ≤ z.1.length → ((List.range j).map (gap z.1 w.R)).sum = xs z.1 w.R j - xs z.1 w.R 0 ∧ 0 ≤ xs z.1 w.R j - xs z.1 w.R 0 ∧
      2 * SWt w i (xs z.1 w.R j - xs z.1 w.R 0).toNat (xs z.1 w.R 0 + 1) = ((List.range j).map fun j => gap z.1 w.R j * (gap z.1 w.R j - 1)).sum := by
    intro j
    induction j with
    | zero => intro _; simp [SWt]
    | succ j ih =>
      intro hj
      obtain ⟨h1, h2, h3⟩ := ih (by omega)
      obtain ⟨g1, g2⟩ := gap_xs q (j := j) (by omega)
      obtain ⟨s1, s2⟩ := seg_open o hz q (j := j) (by omega)
      rw [List.range_succ, List.map_append, List.sum_append, List.map_append, List.sum_append, h1, ← h3]
      have eg : ([j].map (gap z.1 w.R)).sum = gap z.1 w.R j := by simp
      have eg2 : ([j].map fun j => gap z.1 w.R j * (gap z.1 w.R j - 1)).sum = gap z.1 w.R j * (gap z.1 w.R j - 1) := by simp
      rw [eg, eg2]
      refine ⟨by omega, by omega, ?_⟩
      obtain ⟨n, hn⟩ : ∃ n : Nat, xs z.1 w.R (j + 1) = xs z.1 w.R j + 1 + n := ⟨(xs z.1 w.R (j + 1) - xs z.1 w.R j - 1).toNat, by omega⟩
      have sg := SWt_seg o i n (xs z.1 w.R j + 1) (by rw [← hn]; exact s1) (by rw [← hn]; exact s2)
      have e1 : (xs z.1 w.R (j + 1) - xs z.1 w.R 0).toNat = (xs z.1 w.R j - xs z.1 w.R 0).toNat + (n + 1) := by omega
      have e2 : xs z.1 w.R 0 + 1 + ((xs z.1 w.R j - xs z.1 w.R 0).toNat : Int) = xs z.1 w.R j + 1 := by omega
      have e3 : gap z.1 w.R j = (n : Int) + 1 := by omega
      rw [e1, SWt_add, e2, e3, Int.mul_add, sg]
      have e4 : (n : Int) + 1 - 1 = n := by omega
      rw [e4]
  obtain ⟨h1, h2, h3⟩ := key _ (Nat.le_refl _)
  have en : xs z.1 w.R z.1.length = z.1.getD 0 0 + w.R := if_neg (Nat.lt_irrefl _)
  have e0 : xs z.1 w.R 0 = z.1.getD 0 0 := if_pos hl
  refine ⟨by omega, ?_⟩
  rw [← h3, sum_SW, SWt_any o i b (xs z.1 w.R 0 + 1)]
  have e : (xs z.1 w.R z.1.length - xs z.1 w.R 0).toNat = w.R := by omega
  rw [e]
/-- without a gate -/
theorem waits_none {w : Wd} (o : w.Ok) {i : Nat} (hz : w.g i = none) (b : Int) : ((List.range w.R).map fun k : Nat => go w i (b + k) - (b + k)).sum = 0 := by
  have : ∀ k : Nat, go w i (b + k) - (b + k) = 0 := fun k => by
    rw [go_self o (by unfold opn; rw [hz])]
    omega
  simp only [this]
  generalize w.R = n
  induction n with
  | zero => rfl
  | succ n ih => rw [List.range_succ, List.map_append, List.sum_append, ih]; rfl
end FL

set_option Elab.async false
set_option linter.all false
set_option maxRecDepth 100000
set_option autoImplicit false
namespace FL
open PySem PySem.Spec PyProof.Rows L2
/-! ### the law's own state, all being drawn -/
structure RF (w : Wd) (r c k : Nat) (b : Int) (L : Loc) : Prop where
  len : L.length = 26
  f0 : L[0]? = some (some (.ref r))
  f1 : L[1]? = some (some (.ref c))
  f2 : L[2]? = some (some (.int w.R))
  f3 : L[3]? = some (some (.ref k))
  f4 : L[4]? = some (some (flo w.m))
  f6 : L[6]? = some (some (gates w))
  f7 : L[7]? = some (some (.int b))
theorem RF.set {w : Wd} {r c k : Nat} {b : Int} {L : Loc} (h : RF w r c k b L) {i : Nat} (hi : i = 5 ∨ 8 ≤ i) (v : Option D) : RF w r c k b (L.set i v) := by
  refine ⟨by simp [h.len], ?_, ?_, ?_, ?_, ?_, ?_, ?_⟩
  · rw [List.getElem?_set_ne (by omega)]; exact h.f0
  · rw [List.getElem?_set_ne (by omega)]; exact h.f1
  · rw [List.getElem?_set_ne (by omega)]; exact h.f2
  · rw [List.getElem?_set_ne (by omega)]; exact h.f3
  · rw [List.getElem?_set_ne (by omega)]; exact h.f4
  · rw [List.getElem?_set_ne (by omega)]; exact h.f6
  · rw [List.getElem?_set_ne (by omega)]; exact h.f7
structure RSt (w : Wd) (c k : Nat) (b : Int) (s : Sto) : Prop where
  o : w.Ok
  ph : ∀ i z, w.g i = some z → Phs w.R z.1
  kn : Kn w k s
  kl : k < s.length
  cl : s[c]? = some (.lst (cells w.m))
  b0 : 0 ≤ b
  b1 : b < 2000
theorem RSt.grow {w : Wd} {c k : Nat} {b : Int} {s t : Sto} (h : RSt w c k b s) (g : Gr s t) : RSt w c k b t := ⟨h.o, h.ph, h.kn.grow h.kl g, by have := g.len; have := h.kl; omega, g.at h.cl, h.b0, h.b1⟩
/-! ### texts of numbers -/
theorem log_small {i : Int} (h : i.natAbs < 1000000) : i.natAbs.log2 < 1920 := PySem.Spec.log2_small (Nat.lt_of_lt_of_le h (by decide +kernel))
theorem repr_ok {xs : List D} (h1 : D.pures xs = true) (h2 : (D.P (.tup xs)).showable = true) (h3 : D.deps xs ≤ 59) (h4 : (D.P (.tup xs)).shown.length ≤ sizeLine) (s : Sto) : reprD [.tup xs] s = some (.str (D.P (.tup xs)).shown, s) := by
  unfold reprD
  simp only
  rw [if_pos]
  rw [h1, h2, decide_eq_true h3, decide_eq_true h4]
  rfl
theorem str_app_len (a b : Str) : (a ++ b).length = a.length + b.length := PySem.strLen_append a b
theorem int_len {i : Int} (h : i.natAbs < 1000000) : (toString i : Str).length ≤ 2000 := by
  have h1 := PyProof.Rows.int_text_len_1921 (log_small h)
  exact Nat.le_trans h1 (by omega)
theorem pair_len {a b : Int} (ha : a.natAbs < 1000000) (hb : b.natAbs < 1000000) : (D.P (.tup [.int a, .int b])).shown.length ≤ 5000 := by
  have h1 := int_len ha
  have h2 := int_len hb
  show (tupleText [toString a, toString b]).length ≤ 5000
  unfold tupleText
  have e : Str.join ", " [toString a, toString b] = toString a ++ ", " ++ toString b := rfl
  rw [e, str_app_len, str_app_len, str_app_len, str_app_len]
  have l1 : ("(" : Str).length = 1 := rfl
  have l2 : ((", " : String) : Str).length = 2 := rfl
  have l3 : (if ([toString a, toString b] : List Str).length == 1 then ((",)" : String) : Str) else ((")" : String) : Str)).length = 1 := rfl
  have l3' : (((if ([toString a, toString b] : List Str).length == 1 then ",)" else ")" : String) : Str)).length = 1 := rfl
  omega
theorem repr_pair {a b : Int} (ha : a.natAbs < 1000000) (hb : b.natAbs < 1000000) (s : Sto) : reprD [.tup [.int a, .int b]] s = some (.str (D.P (.tup [.int a, .int b])).shown, s) := by
  refine repr_ok rfl ?_ (by simp [D.deps, D.dep]) (by have := pair_len ha hb; rw [sizeLine_eq]; omega) s
  simp [D.P, D.Ps, PyData.showable, PyData.showableAll, log_small ha, log_small hb]
theorem repr_two {a b c d : Int} (ha : a.natAbs < 1000000) (hb : b.natAbs < 1000000) (hc : c.natAbs < 1000000) (hd : d.natAbs < 1000000) (s : Sto) : ∃ z, reprD [.tup [.tup [.int a, .int b], .tup [.int c, .int d]]] s = some (.str z, s) := by
  refine ⟨_, repr_ok rfl ?_ (by simp [D.deps, D.dep]) ?_ s⟩
  · simp [D.P, D.Ps, PyData.showable, PyData.showableAll, log_small ha, log_small hb, log_small hc, log_small hd]
  · have h1 := pair_len ha hb
    have h2 := pair_len hc hd
    show (tupleText [(D.P (.tup [.int a, .int b])).shown, (D.P (.tup [.int c, .int d])).shown]).length ≤ sizeLine
    generalize (D.P (.tup [.int a, .int b])).shown = x at *
    generalize (D.P (.tup [.int c, .int d])).shown = y at *
    unfold tupleText
    have e : Str.join ", " [x, y] = x ++ ", " ++ y := rfl
    rw [e, str_app_len, str_app_len, str_app_len, str_app_len, sizeLine_eq]
    have l1 : ("(" : Str).length = 1 := rfl
    have l2 : ((", " : String) : Str).length = 2 := rfl
    have l3' : (((if ([x, y] : List Str).length == 1 then ",)" else ")" : String) : Str)).length = 1 := rfl
    omega
theorem repr_int {a : Int} (ha : a.natAbs < 1000000) (s : Sto) : reprD [.int a] s = some (.str (toString a), s) := by
  unfold reprD
  simp only
  rw [if_pos (log_small ha)]
theorem ne_str_same (z : Str) (s : Sto) : neD (.str z) (.str z) s = some (.bl false, s) := by rw [o_neS]; simp
/-! ### sums -/
theorem sum_ints {s : Sto} {x : D} {ns : List Int} (e : lstD s x = some (ns.map .int)) : sumD [x] s = some (.int ns.sum, s) := by
  have h : intsD (ns.map .int) = some ns := by
    clear e
    induction ns with
    | nil => rfl
    | cons a l ih =>
      rw [List.map_cons]
      show (intsD (l.map .int)).map (a :: ·) = _
      rw [ih]
      rfl
  unfold sumD onInts
  simp only [e, Option.bind_some, h, Option.map_some]
theorem sum_at {s : Sto} {n : Nat} {ns : List Int} (e : s[n]? = some (.lst (ns.map .int))) : sumD [.ref n] s = some (.int ns.sum, s) := sum_ints (by simp [lstD, e])
theorem SWt_bd {w : Wd} (o : w.Ok) (i : Nat) : ∀ (n : Nat) (t : Int), 0 ≤ SWt w i n t ∧ SWt w i n t ≤ n * 12
  | 0, t => by simp [SWt]
  | n + 1, t => by
    have h := SWt_bd o i n (t + 1)
    have q := go_is o i t
    have q1 := q.ge
    have q2 := q.lt
    have r12 := o.r12
    rw [SWt]
    unfold wait
    omega
theorem gap_bd {R : Nat} (hR : 1 ≤ R) (ns : List Int) (j : Nat) : 1 ≤ gap ns R j ∧ gap ns R j ≤ R := by
  unfold gap
  have h1 := Int.emod_nonneg (ns.getD ((j + 1) % ns.length) 0 - ns.getD j 0 - 1) (b := (R : Int)) (by omega)
  have h2 := Int.emod_lt_of_pos (ns.getD ((j + 1) % ns.length) 0 - ns.getD j 0 - 1) (b := (R : Int)) (by omega)
  omega
end FL

set_option Elab.async false
set_option linter.all false
set_option maxRecDepth 100000
set_option autoImplicit false
namespace FL
open PySem PySem.Spec PyProof.Rows L2
def b7i : FS := fSq (fAs (fCall F_set_off (fAc (fvar 4) (fAc (fvar 6) (fAc (fE2 ixD (fvar 5) (fC (.int 0))) (fAc (fE2 ixD (fvar 5) (fC (.int 1))) (fAc (fvar 19) fA0)))))) (fNm 17))
    (fSq (fIfS (fTb (fE2 neD (fCB reprD (fAc (fvar 17) fA0)) (fCB reprD (fAc (fCall F__law_goes (fAc (fvar 3) (fAc (fvar 2) (fAc (fvar 5) (fAc (fvar 19) fA0))))) fA0)))) (fRt (fC (.bl false))) fNx)
    (fEx (fM "list" appD (fvar 18) (fAc (fE2 subD (fE2 ixD (fvar 17) (fC (.int 0))) (fvar 19)) fA0))))
def b7g : FE := fIf (fTb (fE2 inD (fvar 5) (fvar 3))) (fCall F__law_gaps (fAc (fE2 ixD (fE2 ixD (fvar 3) (fvar 5)) (fC (.int 0))) (fAc (fvar 2) fA0))) (fE2 mulD (fLst (fAc (fC (.int 1)) fA0)) (fvar 2))
def b7c : FS := fIfS (fOr (fTb (fE2 neD (fCB sumD (fAc (fvar 20) fA0)) (fvar 2))) (fTb (fE2 neD (fE2 mulD (fC (.int 2)) (fCB sumD (fAc (fvar 18) fA0))) (fCB sumD (fAc (fLc (fSeqI (fvar 20)) (fNm 25) fYes (fE2 mulD (fvar 25) (fE2 subD (fvar 25) (fC (.int 1)))) [25]) fA0))))) (fRt (fC (.bl false))) fNx
def b7 : FS := fSq (fAs (fLst fA0) (fNm 18))
    (fSq (fFor (fRng2 (fAc (fvar 7) (fAc (fE2 addD (fvar 7) (fvar 2)) fA0))) (fNm 19) b7i)
    (fSq (fAs b7g (fNm 20)) b7c))
def st7 : FS := fFor (fSeqI (fE2 ixD (fvar 4) (fC (.int 1)))) (fNm 5) b7
section
variable {w : Wd} {r c k : Nat} {b : Int}
theorem st7_ok {L : Loc} {s : Sto} (h : RF w r c k b L) (q : RSt w c k b s) : ∃ L' s', st7 L s = some (.nx, L', s') ∧ RF w r c k b L' ∧ Gr s s' := by
  have o := q.o
  have m6 := o.m6
  have r1 := o.r1
  have r12 := o.r12
  have hR : (0 : Int) < w.R := by omega
  have i1 : ∀ s, ixD (flo w.m) (.int 1) s = some (.ft (ways w.m), s) := fun s => ix_T rfl s
  have eI : fSeqI (fE2 ixD (fvar 4) (fC (.int 1))) L s = some (⟨ways w.m, []⟩, s) := by
    simp -implicitDefEqProofs [fSeqI, seqI, h.f4, i1]
  refine for_same (fg := fNm 5) (fb := b7) eI (RF w r c k b) (by simp) ?_ h
  intro d hd L s' h g
  obtain ⟨i, hi, rfl⟩ := wmem hd
  have q' := q.grow g
  let L1 := L.set 5 (some (wy i))
  have h1 : RF w r c k b L1 := h.set (.inl rfl) _
  have f5 : L1[5]? = some (some (wy i)) := List.getElem?_set_self (by rw [h.len]; omega)
  have p1 : fAs (fLst fA0) (fNm 18) L1 s' = some (.nx, L1.set 18 (some (.ref s'.length)), s' ++ [.lst []]) := as_nm (by simp -implicitDefEqProofs [sz])
  let s1 : Sto := s' ++ [.lst []]
  let L2 := L1.set 18 (some (.ref s'.length))
  have h2 : RF w r c k b L2 := h1.set (.inr (by omega)) _
  have eR : fRng2 (fAc (fvar 7) (fAc (fE2 addD (fvar 7) (fvar 2)) fA0)) L2 s1 = some (⟨(List.range w.R).map fun j => D.int (b + (j : Nat)), []⟩, s1) := i_Rng2 (j := b) (n := w.R) (v_at h2.f7 _) (by simp -implicitDefEqProofs [h2.f7, h2.f2]) q.b0 (by have := q.b1; omega)
  let wt : Nat → Int := fun j => go w i (b + j) - (b + j)
  obtain ⟨L3, s3, e3, ⟨h3, f5', f18, g3, hk⟩⟩ := for_inv (fg := fNm 19) (fb := b7i) eR
    (fun j L s => RF w r c k b L ∧ L[5]? = some (some (wy i)) ∧ L[18]? = some (some (.ref s'.length)) ∧ Gr s' s ∧ s[s'.length]? = some (.lst (((List.range j).map wt).map .int))) (fun _ _ _ _ => rfl) (by
      intro j d L s2 hd ⟨hL, f5, f18, g2, hk⟩
      have hj : j < w.R := by
        have := (List.getElem?_eq_some_iff.mp hd).1
        simpa using this
      rw [List.getElem?_map, List.getElem?_range hj] at hd
      cases hd
      have b0 := q.b0
      have b1 := q.b1
      have q2 := q'.grow g2
      have c1 := f_set_off o hi (t := b + j) (by omega) (by omega) s2
      have c2 := f_goes o q2.kn hi (t := b + j) (by omega) (by omega)
      have qq := go_is o i (b + j)
      have qa := qq.ge
      have qb := qq.lt
      have tb := tk_bd o i
      have c3 := repr_pair (a := go w i (b + j)) (b := arr w i (b + j)) (by omega) (by unfold arr; omega) s2
      have a0 : ∀ s, ixD (wy i) (.int 0) s = some (cl i, s) := fun s => ix_T rfl s
      have a1 : ∀ s, ixD (wy i) (.int 1) s = some (cl (i + 1), s) := fun s => ix_T rfl s
      have a2 : ∀ s, ixD (.tup [.int (go w i (b + j)), .int (arr w i (b + j))]) (.int 0) s = some (.int (go w i (b + j)), s) := fun s => ix_T rfl s
      let L4 := L.set 19 (some (.int (b + j)))
      have h4 : RF w r c k b L4 := hL.set (.inr (by omega)) _
      have l5 : L4[5]? = some (some (wy i)) := by
        show (L.set 19 _)[5]? = _
        rw [List.getElem?_set_ne (by omega)]; exact f5
      have l18 : L4[18]? = some (some (.ref s'.length)) := by
        show (L.set 19 _)[18]? = _
        rw [List.getElem?_set_ne (by omega)]; exact f18
      have l19 : L4[19]? = some (some (.int (b + j))) := List.getElem?_set_self (by rw [hL.len]; omega)
      let L5 := L4.set 17 (some (.tup [.int (go w i (b + j)), .int (arr w i (b + j))]))
      have h5 : RF w r c k b L5 := h4.set (.inr (by omega)) _
      have k5 : L5[5]? = some (some (wy i)) := by
        show (L4.set 17 _)[5]? = _
        rw [List.getElem?_set_ne (by omega)]; exact l5
      have k18 : L5[18]? = some (some (.ref s'.length)) := by
        show (L4.set 17 _)[18]? = _
        rw [List.getElem?_set_ne (by omega)]; exact l18
      have k19 : L5[19]? = some (some (.int (b + j))) := by
        show (L4.set 17 _)[19]? = _
        rw [List.getElem?_set_ne (by omega)]; exact l19
      have k17 : L5[17]? = some (some (.tup [.int (go w i (b + j)), .int (arr w i (b + j))])) := List.getElem?_set_self (by rw [h4.len]; omega)
      refine ⟨L4, s2, L5, _, rfl, sq_nx (as_nm (s' := s2) (d := .tup [.int (go w i (b + j)), .int (arr w i (b + j))]) ?_) (sq_nx (if_no (s' := s2) ?_) (i_AppS (n := s'.length) (x := .int (wt j)) (v_at k18 _) ?_ hk (by simp; omega))), h5, k5, k18, g2.set (Nat.le_refl _) _, ?_⟩
      · simp -implicitDefEqProofs [h4.f4, h4.f6, l5, l19, a0, a1, c1]
      · show fTb (fE2 neD (fCB reprD (fAc (fvar 17) fA0)) (fCB reprD (fAc (fCall F__law_goes (fAc (fvar 3) (fAc (fvar 2) (fAc (fvar 5) (fAc (fvar 19) fA0))))) fA0))) L5 s2 = _
        simp -implicitDefEqProofs [k17, h5.f3, h5.f2, k5, k19, c2, c3, ne_str_same]
      · show fE2 subD (fE2 ixD (fvar 17) (fC (.int 0))) (fvar 19) L5 s2 = _
        simp -implicitDefEqProofs [k17, k19, a2, wt]
      · rw [List.getElem?_set_self (List.getElem?_eq_some_iff.mp hk).1, List.range_succ, List.map_append, List.map_append]
        rfl)
    ⟨h2, by
      show (L1.set 18 _)[5]? = _
      rw [List.getElem?_set_ne (by omega)]; exact f5, List.getElem?_set_self (by rw [h1.len]; omega), Gr.app _ _, by simp [s1]⟩
  rw [List.length_map, List.length_range] at hk
  have q3 := q'.grow g3
  have hwb : 0 ≤ ((List.range w.R).map wt).sum ∧ ((List.range w.R).map wt).sum ≤ 144 := by
    have e : ((List.range w.R).map wt).sum = SWt w i w.R b := sum_SW w i w.R b
    have := SWt_bd o i w.R b
    rw [e]
    omega
  -- the gaps
  obtain ⟨gs, s4, n4, e4, g4, hk4, sg, dg, bd, ln⟩ : ∃ (gs : List Int) (s4 : Sto) (n4 : Nat), b7g L3 s3 = some (.ref n4, s4) ∧ Gr s3 s4 ∧ s4[n4]? = some (.lst (gs.map .int)) ∧ gs.sum = w.R ∧ 2 * ((List.range w.R).map wt).sum = (gs.map fun x => x * (x - 1)).sum ∧ (∀ x ∈ gs, 1 ≤ x ∧ x ≤ 12) ∧ gs.length ≤ 100 := by
    have ci := (q3.kn.inn o hi).1
    rcases hz : w.g i with _ | z
    · rw [hz] at ci
      refine ⟨List.replicate w.R 1, s3 ++ [.lst [.int 1]] ++ [.lst (List.replicate w.R (.int 1))], s3.length + 1, if_not (s' := s3) ?_ ?_, (Gr.app s3 _).trans (Gr.app _ _), ?_, ?_, ?_, ?_, by simp; omega⟩
      · simp -implicitDefEqProofs [f5', h3.f3, ci]
      · have e1 : (s3 ++ [O.lst [.int 1]])[s3.length]? = some (.lst [.int 1]) := by simp
        have e2 : mulD (.ref s3.length) (.int w.R) (s3 ++ [.lst [.int 1]]) = some (.ref (s3.length + 1), s3 ++ [.lst [.int 1]] ++ [.lst (List.replicate w.R (.int 1))]) := by
          unfold mulD
          simp only [e1]
          have e3 : ((w.R : Int)).toNat = w.R := by omega
          have p63 : (2 : Int) ^ 63 = 9223372036854775808 := by decide +kernel
          rw [if_pos (by rw [p63, e3, sizeLine_eq]; simp; omega), e3]
          have e4 : (List.replicate w.R [D.int 1]).flatten = List.replicate w.R (.int 1) := by
            generalize w.R = n
            induction n with
            | zero => rfl
            | succ n ih => rw [List.replicate_succ, List.flatten_cons, ih, List.replicate_succ]; rfl
          rw [e4]
          simp
        simp -implicitDefEqProofs [sz1, h3.f2]
        have := e2
        rw [List.append_assoc] at this
        exact this
      · rw [List.getElem?_append_right (by simp)]
        simp
      · generalize w.R = n
        induction n with
        | zero => rfl
        | succ n ih => rw [List.replicate_succ, List.sum_cons, ih]; omega
      · have := waits_none o hz b
        show 2 * ((List.range w.R).map fun k : Nat => go w i (b + k) - (b + k)).sum = _
        rw [this]
        generalize w.R = n
        induction n with
        | zero => rfl
        | succ n ih => rw [List.replicate_succ, List.map_cons, List.sum_cons, ← ih]; rfl
      · intro x hx
        have := List.eq_of_mem_replicate hx
        omega
    · rw [hz] at ci
      have pz := q.ph i z hz
      have cx := ix_ref q3.kn.notL (by rw [q3.kn.get o hi, hz]; rfl : dget s3 k (wy i) = some (some (gv z)))
      have cy : ∀ s, ixD (gv z) (.int 0) s = some (.ft (z.1.map .int), s) := fun s => ix_T rfl s
      obtain ⟨t, t1, t2, t3⟩ := gaps_ok (R := w.R) (ns := z.1) r1 (by have := pz.len; omega) pz.ne s3
      have wg := waits_gaps o hz pz b
      refine ⟨(List.range z.1.length).map (gap z.1 w.R), t, s3.length, if_yes (s' := s3) ?_ ?_, t2, ?_, wg.1, ?_, ?_, ?_⟩
      · simp -implicitDefEqProofs [f5', h3.f3, ci]
      · simp -implicitDefEqProofs [f5', h3.f3, cx, cy, h3.f2, t1]
      · rw [t3, List.map_map]
        rfl
      · rw [List.map_map]
        exact wg.2
      · intro x hx
        obtain ⟨j, _, rfl⟩ := List.mem_map.mp hx
        have := gap_bd r1 z.1 j
        omega
      · have := pz.len
        simp
        omega
  have p4 : fAs b7g (fNm 20) L3 s3 = some (.nx, L3.set 20 (some (.ref n4)), s4) := as_nm e4
  let L6 := L3.set 20 (some (.ref n4))
  have h6 : RF w r c k b L6 := h3.set (.inr (by omega)) _
  have k20 : L6[20]? = some (some (.ref n4)) := List.getElem?_set_self (by rw [h3.len]; omega)
  have k18 : L6[18]? = some (some (.ref s'.length)) := by
    show (L3.set 20 _)[18]? = _
    rw [List.getElem?_set_ne (by omega)]; exact f18
  have hkw := g4.at hk
  obtain ⟨s5, u1, u2, u3⟩ := lc_map (fi := fSeqI (fvar 20)) (fg := fNm 25) (fe := fE2 mulD (fvar 25) (fE2 subD (fvar 25) (fC (.int 1)))) (vs := [25]) (L := L6) (s := s4) (s0 := s4) (items := gs.map .int) (chk := [(n4, .lst (gs.map .int))])
    (fun d => .int (d.toI * (d.toI - 1))) (by simp -implicitDefEqProofs [fSeqI, k20, seqI, hk4]) (by
      intro x hx
      simp only [List.mem_cons, List.not_mem_nil, or_false] at hx
      subst hx
      exact hk4) (fun d hd => ⟨_, fun _ => rfl, fun s' g => ⟨s', by
      obtain ⟨x, hx, rfl⟩ := List.mem_map.mp hd
      have := bd x hx
      have l25 : ((wipeL L6 [25]).set 25 (some (D.int x)))[25]? = some (some (.int x)) := List.getElem?_set_self (by simp [wipeL, h6.len])
      have m1 := mul64 (i := x) (j := x - 1) (by omega) (by omega) s'
      simp -implicitDefEqProofs [l25, m1], Gr.refl _⟩⟩) (sz _ (by simp; omega))
  have u3' : s5[s4.length]? = some (.lst ((gs.map fun x => x * (x - 1)).map .int)) := by
    rw [u3, List.map_map, List.map_map]
    rfl
  have v1 := sum_at (s := s4) hk4
  have v2 := sum_at (s := s4) hkw
  have v3 := sum_at (s := s5) u3'
  rw [sg] at v1
  rw [← dg] at v3
  have m2 := mul64 (i := 2) (j := ((List.range w.R).map wt).sum) (by omega) (by omega) s4
  have p5 : b7c L6 s4 = some (.nx, L6, s5) := if_no (by
    have e1 : fTb (fE2 neD (fCB sumD (fAc (fvar 20) fA0)) (fvar 2)) L6 s4 = some (false, s4) := by
      simp -implicitDefEqProofs [k20, v1, h6.f2]
    rw [e_Or, e1]
    simp only [Option.bind_some, Bool.false_eq_true, if_false]
    simp -implicitDefEqProofs [k18, v2, m2, u1, v3])
  exact ⟨L1, s', L6, s5, rfl, sq_nx p1 (sq_nx e3 (sq_nx p4 p5)), h6, (g.trans g3).trans (g4.trans u2)⟩
end
end FL

set_option Elab.async false
set_option linter.all false
set_option maxRecDepth 100000
set_option autoImplicit false
namespace FL
open PySem PySem.Spec PyProof.Rows L2
theorem ne_same {x y : D} (hx : x.pure = true) (hy : y.pure = true) (hd : x.dep ≤ 60) (e : x.P = y.P) (s : Sto) : neD x y s = some (.bl false, s) ∧ eqD x y s = some (.bl true, s) := by
  rw [o_ne hx hy hd, o_eq hx hy hd, ← e, PySem.SeqAt.eqv_refl_plain _ (D.plainP x)]
  exact ⟨rfl, rfl⟩
theorem atI_last {α : Type} {ds : List α} {n : Nat} {d : α} (hl : ds.length = n + 1) (h : ds[n]? = some d) : L2.atI ds (-1) = some d := by
  unfold L2.atI L2.ixN
  rw [if_neg (by omega), if_pos (by omega)]
  have e : ((-1 : Int) + (ds.length : Int)).toNat = n := by omega
  simp only [Option.bind_some, e, h]
theorem cells_last {m : Nat} (h : 2 ≤ m) : L2.atI (cells m) (-1) = some (cl (m - 1)) := atI_last (n := m - 1) (by rw [cells_len]; omega) (by
  unfold cells
  rw [List.getElem?_map, List.getElem?_range (by omega)]
  rfl)
theorem cells_first {m : Nat} (h : 2 ≤ m) : L2.atI (cells m) 0 = some (cl 0) := atI_nn (n := 0) (by
  unfold cells
  rw [List.getElem?_map, List.getElem?_range (by omega)]
  rfl)
def t8 : FS := fAs (fLc (fRng1 (fAc (fvar 2) fA0)) (fNm 19) fYes (fE2 subD (fE2 ixD (fCall F__law_trip (fAc (fvar 3) (fAc (fvar 2) (fAc (fvar 1) (fAc (fvar 19) fA0))))) (fC (.int 1))) (fvar 19)) [19]) (fNm 8)
def t9 : FS := fAs (fCall F_gate_table (fAc (fvar 4) (fAc (fvar 6) (fAc (fE2 ixD (fvar 1) (fE1 negD (fC (.int 1)))) fA0)))) (fNm 9)
def t10 : FS := fIfS (fOr (fTb (fE2 neD (fE2 ixD (fvar 9) (fC (.int 0))) (fCB tupD (fAc (fvar 8) fA0)))) (fTb (fE2 neD (fE2 ixD (fvar 9) (fE1 negD (fC (.int 1)))) (fE2 mulD (fTup (fAc (fC (.int 0)) fA0)) (fvar 2))))) (fRt (fC (.bl false))) fNx
def t11 : FS := fPar 10 11 (fAc (fCB minLD (fAc (fvar 8) fA0)) (fAc (fCB maxLD (fAc (fvar 8) fA0)) fA0))
def t12 : FS := fAs (fTup (fAc (fTup (fAc (fM "list" idxID (fvar 8) (fAc (fvar 10) fA0)) (fAc (fvar 10) fA0))) (fAc (fTup (fAc (fM "list" idxID (fvar 8) (fAc (fvar 11) fA0)) (fAc (fvar 11) fA0))) fA0))) (fNm 12)
def t13 : FS := fIfS (fTb (fE2 neD (fCB reprD (fAc (fCall F_phases_told (fAc (fvar 4) (fAc (fvar 6) (fAc (fE2 ixD (fvar 1) (fC (.int 0))) (fAc (fE2 ixD (fvar 1) (fE1 negD (fC (.int 1)))) fA0))))) fA0)) (fCB reprD (fAc (fvar 12) fA0)))) (fRt (fC (.bl false))) fNx
section
variable {w : Wd} {r c k : Nat} {b : Int}
theorem set_at {L : Loc} {i : Nat} {v : Option D} (h : i < L.length) : (L.set i v)[i]? = some v := List.getElem?_set_self h
theorem set_of {L : Loc} {i j : Nat} {v : Option D} {x : Option (Option D)} (h : L[j]? = x) (hij : i ≠ j) : (L.set i v)[j]? = x := by
  rw [List.getElem?_set_ne hij, h]
theorem idx_int {L : Loc} {s : Sto} {fr fe : FE} {n j : Nat} {ns : List Int} {y : Int} (h1 : fr L s = some (.ref n, s)) (h2 : fe L s = some (.int y, s)) (h3 : s[n]? = some (.lst (ns.map .int))) (h4 : firstAt y ns 0 = some j) : fM "list" idxID fr (fAc fe fA0) L s = some (.int (j : Nat), s) := by
  have t : tyD "list" s (.ref n) = true := by simp [tyD, lstD, h3]
  have e : intsD (ns.map .int) = some ns := by
    clear h3 h4
    induction ns with
    | nil => rfl
    | cons a l ih =>
      rw [List.map_cons]
      show (intsD (l.map .int)).map (a :: ·) = _
      rw [ih]
      rfl
  have e2 : idxID (.ref n) [.int y] s = some (.int (j : Nat), s) := by
    unfold idxID
    simp only [lstD, h3, Option.bind_some, e, h4, Option.map_some]
  unfold fM
  rw [h1]
  simp only [Option.bind_some, t, if_true, e_Ac, h2, e_A0, e2]
theorem nums_cons {w : Wd} (o : w.Ok) : ∃ a l, nums w = a :: l := by
  obtain ⟨l, hl⟩ := range_pos o.r1
  unfold nums
  rw [hl]
  exact ⟨_, _, rfl⟩
theorem nums_bd {w : Wd} (o : w.Ok) : ∀ z ∈ nums w, 0 ≤ z ∧ z ≤ 100 := by
  intro z hz
  obtain ⟨p, _, rfl⟩ := List.mem_map.mp hz
  have h1 := lev_nn o (w.m - 1) 0 (p : Int)
  have h2 := (lev_bd o (w.m - 1) 0 (p : Int)).2
  have m6 := o.m6
  have : ((w.m - 1 - 0 : Nat) : Int) ≤ 5 := by omega
  omega
/-- numbers, table, best and worst phases -/
theorem mid_ok {L : Loc} {s : Sto} (h : RF w r c k b L) (q : RSt w c k b s) : ∃ L' s' nu bv wv, fSq t8 (fSq t9 (fSq t10 (fSq t11 (fSq t12 t13)))) L s = some (.nx, L', s') ∧ RF w r c k b L' ∧ Gr s s' ∧ L'[8]? = some (some (.ref nu)) ∧ s'[nu]? = some (.lst ((nums w).map .int)) ∧
    L'[10]? = some (some (.int bv)) ∧ L'[11]? = some (some (.int wv)) ∧ bv ∈ nums w ∧ wv ∈ nums w := by
  have o := q.o
  have m2 := o.m2
  have m6 := o.m6
  have r1 := o.r1
  have r12 := o.r12
  have hR : (0 : Int) < w.R := by omega
  have im : ∀ (L : Loc) (s : Sto), fE1 negD (fC (.int 1)) L s = some (.int (-1), s) := fun _ _ => rfl
  have ixl : ∀ {s : Sto}, s[c]? = some (.lst (cells w.m)) → ixD (.ref c) (.int (-1)) s = some (cl (w.m - 1), s) := fun h => ix_L h (cells_last m2)
  have ixf : ∀ {s : Sto}, s[c]? = some (.lst (cells w.m)) → ixD (.ref c) (.int 0) s = some (cl 0, s) := fun h => ix_L h (cells_first m2)
  -- numbers
  obtain ⟨s1, e1, g1, k1⟩ := lc_range (fi := fRng1 (fAc (fvar 2) fA0)) (fg := fNm 19) (fe := fE2 subD (fE2 ixD (fCall F__law_trip (fAc (fvar 3) (fAc (fvar 2) (fAc (fvar 1) (fAc (fvar 19) fA0))))) (fC (.int 1))) (fvar 19)) (vs := [19]) (L := L) (s := s) (s0 := s) (n := w.R) (g := fun p => D.int (p : Nat)) (h := fun p => .int (lev w (w.m - 1) 0 (p : Int))) (c := [])
    (i_Rng1 (v_at h.f2 _) (by omega)) (by simp) (fun p hp => ⟨(wipeL L [19]).set 19 (some (.int (p : Nat))), fun _ => rfl, fun s2 g2 => ⟨s2, by
      have q2 := q.grow g2
      have tr := trip_law o q2.kn q2.kl q2.cl (t := (p : Int)) (by omega) (by omega)
      have hw : RF w r c k b ((wipeL L [19]).set 19 (some (.int (p : Nat)))) := (h.set (i := 19) (.inr (by omega)) none).set (.inr (by omega)) _
      have l19 : ((wipeL L [19]).set 19 (some (D.int (p : Nat))))[19]? = some (some (.int (p : Nat))) := set_at (by simp [wipeL, h.len])
      obtain ⟨Lw, hLw⟩ : ∃ Lw, Lw = (wipeL L [19]).set 19 (some (D.int (p : Nat))) := ⟨_, rfl⟩
      rw [← hLw] at hw l19 ⊢
      have ix1 : ∀ s, ixD (.tup [.ft (tripL w (w.m - 1) 0 p), .int (fin w (w.m - 1) 0 p)]) (.int 1) s = some (.int (fin w (w.m - 1) 0 p), s) := fun s => ix_T rfl s
      have el : fin w (w.m - 1) 0 (p : Int) - (p : Int) = lev w (w.m - 1) 0 (p : Int) := by
        unfold lev
        rw [Nat.sub_zero]
      simp -implicitDefEqProofs [hw.f3, hw.f2, hw.f1, l19, tr, ix1, el], Gr.refl _⟩⟩) (by omega)
  have k1' : s1[s.length]? = some (.lst ((nums w).map .int)) := by
    rw [k1]
    unfold nums
    rw [List.map_map]
    rfl
  have p8 : t8 L s = some (.nx, L.set 8 (some (.ref s.length)), s1) := as_nm e1
  obtain ⟨L1, hL1⟩ : ∃ L1, L1 = L.set 8 (some (D.ref s.length)) := ⟨_, rfl⟩
  have h1 : RF w r c k b L1 := by rw [hL1]; exact h.set (.inr (by omega)) _
  have a8 : L1[8]? = some (some (.ref s.length)) := by rw [hL1]; exact set_at (by rw [h.len]; omega)
  rw [← hL1] at p8
  have q1 := q.grow g1
  -- the table
  have p9 : t9 L1 s1 = some (.nx, L1.set 9 (some (.ft (table w (w.m - 1)))), s1) := as_nm (by
    simp -implicitDefEqProofs [h1.f4, h1.f6, h1.f1, negD, ixl q1.cl, f_table o])
  obtain ⟨L2, hL2⟩ : ∃ L2, L2 = L1.set 9 (some (D.ft (table w (w.m - 1)))) := ⟨_, rfl⟩
  have h2 : RF w r c k b L2 := by rw [hL2]; exact h1.set (.inr (by omega)) _
  have b8 : L2[8]? = some (some (.ref s.length)) := by rw [hL2]; exact set_of a8 (by omega)
  have b9 : L2[9]? = some (some (.ft (table w (w.m - 1)))) := by rw [hL2]; exact set_at (by rw [h1.len]; omega)
  rw [← hL2] at p9
  have tb : ∀ i, i < w.m → (table w (w.m - 1))[i]? = some (.ft (rowL w (w.m - 1) i)) := fun i hi => by
    unfold table
    rw [List.getElem?_map, List.getElem?_range hi]
    rfl
  have x0 : ∀ s, ixD (.ft (table w (w.m - 1))) (.int 0) s = some (.ft (rowL w (w.m - 1) 0), s) := fun s => ix_F (atI_nn (tb 0 (by omega))) s
  have xl : ∀ s, ixD (.ft (table w (w.m - 1))) (.int (-1)) s = some (.ft (rowL w (w.m - 1) (w.m - 1)), s) := fun s => ix_F (atI_last (n := w.m - 1) (by rw [table_len]; omega) (tb _ (by omega))) s
  have rn : rowL w (w.m - 1) 0 = (nums w).map .int := rowL_ints w _ 0
  have n1 : ∀ s, neD (.ft (rowL w (w.m - 1) 0)) (.ft ((nums w).map .int)) s = some (.bl false, s) := fun s => by
    rw [rn]
    exact (ne_same (by simp only [D.pure]; exact pures_int _) (by simp only [D.pure]; exact pures_int _) (by simp [D.dep, deps_int]) rfl s).1
  have zr : rowL w (w.m - 1) (w.m - 1) = (List.replicate w.R (0 : Int)).map .int := by
    unfold rowL
    have : ∀ p : Nat, lev w (w.m - 1) (w.m - 1) (p : Int) = 0 := fun p => lev_goal w _ _
    simp only [this]
    rw [List.map_const']
    simp
  have hmr : (List.replicate w.R (0 : Int)).map D.int = List.replicate w.R (.int 0) := List.map_replicate
  have m1 : ∀ s, mulD (.tup [.int 0]) (.int w.R) s = some (.tup ((List.replicate w.R (0 : Int)).map .int), s) := fun s => by
    unfold mulD
    simp only
    by_cases hR1 : w.R = 1
    · rw [if_pos (by omega), hR1]
      rfl
    · rw [if_neg (by omega), if_pos ⟨by simp, by omega, by omega, by simp⟩]
      have e3 : ((w.R : Int)).toNat = w.R := by omega
      rw [e3]
      have : (List.replicate w.R [D.int 0]).flatten = (List.replicate w.R (0 : Int)).map .int := by
        generalize w.R = n
        induction n with
        | zero => rfl
        | succ n ih => rw [List.replicate_succ, List.flatten_cons, ih, List.replicate_succ]; rfl
      rw [this]
  have n2 : ∀ s, neD (.ft (rowL w (w.m - 1) (w.m - 1))) (.tup ((List.replicate w.R (0 : Int)).map .int)) s = some (.bl false, s) := fun s => by
    rw [zr]
    exact (ne_same (by simp only [D.pure]; exact pures_int _) (by simp only [D.pure]; exact pures_int _) (by simp only [D.dep, deps_int]; omega) rfl s).1
  rw [hmr] at m1 n2
  have p10 : t10 L2 s1 = some (.nx, L2, s1) := if_no (by
    simp -implicitDefEqProofs [b9, x0, b8, tup_lst k1', n1, negD, xl, sz1, h2.f2, m1, n2])
  -- best, worst
  obtain ⟨a, l, hal⟩ := nums_cons o
  have lst : lstD s1 (.ref s.length) = some ((a :: l).map .int) := by rw [← hal]; simp [lstD, k1']
  have bi := best_ints lst
  have mi := minI_spec a l
  have ma := maxI_spec a l
  rw [← hal] at mi ma
  have p11 : t11 L2 s1 = some (.nx, (L2.set 10 (some (.int (minI a l)))).set 11 (some (.int (maxI a l))), s1) := by
    have e1 := bi.1
    have e2 := bi.2
    simp -implicitDefEqProofs [t11, b8, e1, e2, minI, maxI]
  obtain ⟨L3, hL3⟩ : ∃ L3, L3 = (L2.set 10 (some (D.int (minI a l)))).set 11 (some (D.int (maxI a l))) := ⟨_, rfl⟩
  have h3 : RF w r c k b L3 := by rw [hL3]; exact (h2.set (.inr (by omega)) _).set (.inr (by omega)) _
  have c8 : L3[8]? = some (some (.ref s.length)) := by rw [hL3]; exact set_of (set_of b8 (by omega)) (by omega)
  have c10 : L3[10]? = some (some (.int (minI a l))) := by rw [hL3]; exact set_of (set_at (by rw [h2.len]; omega)) (by omega)
  have c11 : L3[11]? = some (some (.int (maxI a l))) := by rw [hL3]; exact set_at (by rw [List.length_set, h2.len]; omega)
  rw [← hL3] at p11
  obtain ⟨bv, bp, wv, wp, B, pt⟩ := f_phases o s1
  have hbv : minI a l = bv := Int.le_antisymm (mi.2 _ (List.mem_of_getElem? B.ba)) (B.bm _ mi.1)
  have hwv : maxI a l = wv := Int.le_antisymm (B.wm _ ma.1) (ma.2 _ (List.mem_of_getElem? B.wa))
  have fb := firstAt_spec bv (nums w) 0 bp B.ba B.bf
  have fw := firstAt_spec wv (nums w) 0 wp B.wa B.wf
  rw [Nat.zero_add] at fb fw
  rw [hbv] at c10
  rw [hwv] at c11
  have p12 : t12 L3 s1 = some (.nx, L3.set 12 (some (due bv bp wv wp)), s1) := as_nm (by
    have i1 := idx_int (v_at c8 s1) (v_at c10 s1) k1' fb
    have i2 := idx_int (v_at c8 s1) (v_at c11 s1) k1' fw
    rw [e_Tup, e_Ac, e_Tup, e_Ac, i1]
    simp only [Option.bind_some]
    rw [e_Ac, v_at c10]
    simp only [Option.bind_some, e_A0]
    rw [if_pos (sz _ (by simp))]
    simp only [Option.bind_some]
    rw [e_Ac, e_Tup, e_Ac, i2]
    simp only [Option.bind_some]
    rw [e_Ac, v_at c11]
    simp only [Option.bind_some, e_A0]
    rw [if_pos (sz _ (by simp))]
    simp only [Option.bind_some]
    rw [if_pos (sz _ (by simp))]
    rfl)
  obtain ⟨L4, hL4⟩ : ∃ L4, L4 = L3.set 12 (some (due bv bp wv wp)) := ⟨_, rfl⟩
  have h4 : RF w r c k b L4 := by rw [hL4]; exact h3.set (.inr (by omega)) _
  have d12 : L4[12]? = some (some (due bv bp wv wp)) := by rw [hL4]; exact set_at (by rw [h3.len]; omega)
  rw [← hL4] at p12
  have nb := nums_bd o
  have hb1 := nb _ (List.mem_of_getElem? B.ba)
  have hw1 := nb _ (List.mem_of_getElem? B.wa)
  have hbp : bp < 13 := by
    have := (List.getElem?_eq_some_iff.mp B.ba).1
    unfold nums at this
    rw [List.length_map, List.length_range] at this
    omega
  have hwp : wp < 13 := by
    have := (List.getElem?_eq_some_iff.mp B.wa).1
    unfold nums at this
    rw [List.length_map, List.length_range] at this
    omega
  obtain ⟨z, hz⟩ := repr_two (a := (bp : Int)) (b := bv) (c := (wp : Int)) (d := wv) (by omega) (by omega) (by omega) (by omega) s1
  have p13 : t13 L4 s1 = some (.nx, L4, s1) := if_no (by
    unfold due at pt d12
    simp -implicitDefEqProofs [h4.f4, h4.f6, h4.f1, ixf q1.cl, negD, ixl q1.cl, pt, hz, d12])
  refine ⟨L4, s1, s.length, bv, wv, sq_nx p8 (sq_nx p9 (sq_nx p10 (sq_nx p11 (sq_nx p12 p13)))), h4, g1, ?_, k1', ?_, ?_, List.mem_of_getElem? B.ba, List.mem_of_getElem? B.wa⟩
  · rw [hL4]; exact set_of c8 (by omega)
  · rw [hL4]; exact set_of c10 (by omega)
  · rw [hL4]; exact set_of c11 (by omega)
end
end FL

set_option Elab.async false
set_option linter.all false
set_option maxRecDepth 100000
set_option autoImplicit false
namespace FL
open PySem PySem.Spec PyProof.Rows L2
/-! ### counts by times -/
def enc (l : List (Int × Int)) : List (Key × D) := l.map fun z => (.inl z.1, .int z.2)
def Wt (φ : Int → Int) (l : List (Int × Int)) : Int := (l.map fun z => z.2 * φ z.1).sum
theorem Wt_cons (φ : Int → Int) (z : Int × Int) (l : List (Int × Int)) : Wt φ (z :: l) = z.2 * φ z.1 + Wt φ l := by simp [Wt]
theorem Wt_app (φ : Int → Int) (l r : List (Int × Int)) : Wt φ (l ++ r) = Wt φ l + Wt φ r := by simp [Wt]
theorem inl_ne {a b : Int} (h : a ≠ b) : (Sum.inl a : Key) ≠ .inl b := fun e => by injection e with e; exact h e
theorem enc_no {k : Int} : ∀ {l : List (Int × Int)}, k ∉ l.map (·.1) → valD (enc l) (.inl k) = none ∧ ∀ d, setD (enc l) (.inl k) d = enc l
  | [], _ => ⟨rfl, fun _ => rfl⟩
  | z :: l, h => by
    rw [List.map_cons, List.mem_cons, not_or] at h
    have ih := enc_no h.2
    have hne : (Sum.inl z.1 : Key) ≠ .inl k := inl_ne fun e => h.1 e.symm
    constructor
    · show (if (Sum.inl z.1 : Key) = .inl k then some (D.int z.2) else valD (enc l) (.inl k)) = none
      rw [if_neg hne, ih.1]
    · intro d
      show (if (Sum.inl z.1 : Key) = .inl k then ((.inl z.1 : Key), d) :: setD (enc l) (.inl k) d else ((.inl z.1 : Key), D.int z.2) :: setD (enc l) (.inl k) d) = _
      rw [if_neg hne, ih.2]
      rfl
theorem enc_set {k : Int} (m : Int) : ∀ {l : List (Int × Int)}, (l.map (·.1)).Nodup → k ∈ l.map (·.1) → ∃ (v : Int) (l' : List (Int × Int)), valD (enc l) (.inl k) = some (.int v) ∧ setD (enc l) (.inl k) (.int (v + m)) = enc l' ∧ l'.map (·.1) = l.map (·.1) ∧
    (∀ φ, Wt φ l' = Wt φ l + m * φ k) ∧ (0 ≤ m → (∀ z ∈ l, 0 ≤ z.2) → ∀ z ∈ l', 0 ≤ z.2)
  | [], _, h => by cases h
  | z :: l, n, h => by
    rw [List.map_cons, List.nodup_cons] at n
    by_cases e : z.1 = k
    · have no := enc_no (k := k) (l := l) (by rw [← e]; exact n.1)
      refine ⟨z.2, (z.1, z.2 + m) :: l, ?_, ?_, rfl, ?_, ?_⟩
      · show (if (Sum.inl z.1 : Key) = .inl k then some (D.int z.2) else valD (enc l) (.inl k)) = _
        rw [if_pos (by rw [e])]
      · show (if (Sum.inl z.1 : Key) = .inl k then ((.inl z.1 : Key), D.int (z.2 + m)) :: setD (enc l) (.inl k) (.int (z.2 + m)) else ((.inl z.1 : Key), D.int z.2) :: setD (enc l) (.inl k) (.int (z.2 + m))) = _
        rw [if_pos (by rw [e]), no.2]
        rfl
      · intro φ
        rw [Wt_cons, Wt_cons, ← e]
        show (z.2 + m) * φ z.1 + Wt φ l = z.2 * φ z.1 + Wt φ l + m * φ z.1
        rw [Int.add_mul]
        omega
      · intro hm hz y hy
        rcases List.mem_cons.mp hy with rfl | hy
        · have := hz z (List.mem_cons_self ..)
          show 0 ≤ z.2 + m
          omega
        · exact hz y (List.mem_cons_of_mem _ hy)
    · have hk : k ∈ l.map (·.1) := by
        rw [List.map_cons, List.mem_cons] at h
        rcases h with h | h
        · exact absurd h.symm e
        · exact h
      obtain ⟨v, l', a1, a2, a3, a4, a5⟩ := enc_set m n.2 hk
      have hne : (Sum.inl z.1 : Key) ≠ .inl k := inl_ne e
      refine ⟨v, z :: l', ?_, ?_, by rw [List.map_cons, List.map_cons, a3], ?_, ?_⟩
      · show (if (Sum.inl z.1 : Key) = .inl k then some (D.int z.2) else valD (enc l) (.inl k)) = _
        rw [if_neg hne, a1]
      · show (if (Sum.inl z.1 : Key) = .inl k then ((.inl z.1 : Key), D.int (v + m)) :: setD (enc l) (.inl k) (.int (v + m)) else ((.inl z.1 : Key), D.int z.2) :: setD (enc l) (.inl k) (.int (v + m))) = _
        rw [if_neg hne, a2]
        rfl
      · intro φ
        rw [Wt_cons, Wt_cons, a4]
        omega
      · intro hm hz y hy
        rcases List.mem_cons.mp hy with rfl | hy
        · exact hz _ (List.mem_cons_self ..)
        · exact a5 hm (fun z hz' => hz z (List.mem_cons_of_mem _ hz')) y hy
theorem upd_ok {l : List (Int × Int)} (n : (l.map (·.1)).Nodup) (k m : Int) : ∃ (v : Int) (l' : List (Int × Int)), (valD (enc l) (.inl k)).getD (.int 0) = .int v ∧ putD (enc l) (.inl k) (.int (v + m)) = enc l' ∧ (l'.map (·.1)).Nodup ∧
    (∀ φ, Wt φ l' = Wt φ l + m * φ k) ∧ (0 ≤ m → (∀ z ∈ l, 0 ≤ z.2) → ∀ z ∈ l', 0 ≤ z.2) ∧ (∀ z ∈ l', z.1 = k ∨ ∃ y ∈ l, y.1 = z.1) ∧ l'.length ≤ l.length + 1 := by
  by_cases h : k ∈ l.map (·.1)
  · obtain ⟨v, l', a1, a2, a3, a4, a5⟩ := enc_set m n h
    refine ⟨v, l', by rw [a1]; rfl, ?_, by rw [a3]; exact n, a4, a5, fun z hz => .inr ?_, ?_⟩
    · unfold putD hasD
      rw [a1]
      simpa using a2
    · have : z.1 ∈ l.map (·.1) := by rw [← a3]; exact List.mem_map.mpr ⟨z, hz, rfl⟩
      obtain ⟨y, hy, e⟩ := List.mem_map.mp this
      exact ⟨y, hy, e⟩
    · have := congrArg List.length a3
      simp at this
      omega
  · have no := enc_no h
    refine ⟨0, l ++ [(k, 0 + m)], by rw [no.1]; rfl, ?_, ?_, ?_, ?_, ?_, by simp⟩
    · unfold putD hasD
      rw [no.1]
      simp [enc]
    · rw [List.map_append, List.nodup_append]
      refine ⟨n, by simp, fun a ha b hb e => ?_⟩
      simp only [List.map_cons, List.map_nil, List.mem_cons, List.not_mem_nil, or_false] at hb
      subst hb
      subst e
      exact h ha
    · intro φ
      rw [Wt_app, Wt_cons]
      simp [Wt]
    · intro hm hz z hz'
      rcases List.mem_append.mp hz' with hz' | hz'
      · exact hz z hz'
      · simp only [List.mem_cons, List.not_mem_nil, or_false] at hz'
        subst hz'
        show 0 ≤ 0 + m
        omega
    · intro z hz'
      rcases List.mem_append.mp hz' with hz' | hz'
      · exact .inr ⟨z, hz', rfl⟩
      · simp only [List.mem_cons, List.not_mem_nil, or_false] at hz'
        subst hz'
        exact .inl rfl
def SumP (R : Nat) (f : Int → Int) : Int := ((List.range R).map fun p : Nat => f (p : Int)).sum
theorem sumP_add (f g : Int → Int) : ∀ R : Nat, SumP R (fun p => f p + g p) = SumP R f + SumP R g
  | 0 => rfl
  | R + 1 => by
    have e : ∀ h : Int → Int, SumP (R + 1) h = SumP R h + h (R : Nat) := fun h => by
      unfold SumP
      rw [List.range_succ, List.map_append, List.sum_append]
      simp
    rw [e, e, e, sumP_add f g R]
    omega
theorem sumP_one : ∀ R : Nat, SumP R (fun _ => 1) = R
  | 0 => rfl
  | R + 1 => by
    have := sumP_one R
    unfold SumP at *
    rw [List.range_succ, List.map_append, List.sum_append, this]
    simp
structure Cnt (w : Wd) (x : Nat) (l : List (Int × Int)) : Prop where
  nd : (l.map (·.1)).Nodup
  sm : ∀ φ, Wt φ l = SumP w.R fun p => φ (fin w x 0 p)
  nn : ∀ z ∈ l, 0 ≤ z.2
  tm : ∀ z ∈ l, 0 ≤ z.1 ∧ z.1 ≤ 12 + 20 * x
  ln : l.length ≤ 12
theorem Wt_mem : ∀ {l : List (Int × Int)}, (∀ z ∈ l, 0 ≤ z.2) → 0 ≤ Wt (fun _ => 1) l ∧ ∀ z ∈ l, z.2 ≤ Wt (fun _ => 1) l
  | [], _ => ⟨Int.le_refl _, fun z hz => by cases hz⟩
  | y :: l, h => by
    obtain ⟨h1, h2⟩ := Wt_mem (l := l) fun z hz => h z (List.mem_cons_of_mem _ hz)
    have hy := h y (List.mem_cons_self ..)
    rw [Wt_cons, Int.mul_one]
    refine ⟨by omega, fun z hz => ?_⟩
    rcases List.mem_cons.mp hz with rfl | hz
    · omega
    · have := h2 z hz
      omega
theorem Cnt.le {w : Wd} (o : w.Ok) {x : Nat} {l : List (Int × Int)} (h : Cnt w x l) : ∀ z ∈ l, z.2 ≤ 12 := by
  intro z hz
  have h1 := (Wt_mem h.nn).2 z hz
  rw [h.sm, sumP_one] at h1
  have := o.r12
  omega
end FL

set_option Elab.async false
set_option linter.all false
set_option maxRecDepth 100000
set_option autoImplicit false
namespace FL
open PySem PySem.Spec PyProof.Rows L2
structure RGz (w : Wd) (r c k : Nat) (b : Int) (nu : Nat) (bv wv : Int) (L : Loc) : Prop where
  rf : RF w r c k b L
  f8 : L[8]? = some (some (.ref nu))
  f10 : L[10]? = some (some (.int bv))
  f11 : L[11]? = some (some (.int wv))
theorem RGz.set {w : Wd} {r c k nu : Nat} {b bv wv : Int} {L : Loc} (h : RGz w r c k b nu bv wv L) {i : Nat} (hi : i = 5 ∨ 13 ≤ i) (v : Option D) : RGz w r c k b nu bv wv (L.set i v) :=
  ⟨h.rf.set (by omega) v, set_of h.f8 (by omega), set_of h.f10 (by omega), set_of h.f11 (by omega)⟩
def t14 : FS := fPar 13 14 (fAc (fC (.int 0)) (fAc (fCB dictKD (fAc (fLc (fRng1 (fAc (fvar 2) fA0)) (fNm 19) fYes (fTup (fAc (fvar 19) (fAc (fC (.int 1)) fA0))) [19]) fA0)) fA0))
def t15b : FS := fSq (fAs (fCall F__law_goes (fAc (fvar 3) (fAc (fvar 2) (fAc (fvar 5) (fAc (fvar 19) fA0))))) (fGt 2 (fGc (fNm 23) (fGc (fNm 16) fG0))))
    (fSq (fAs (fE2 addD (fvar 13) (fE2 mulD (fvar 22) (fE2 subD (fvar 16) (fvar 19)))) (fNm 13))
    (fPut (fE2 addD (fGet2 (fvar 21) (fvar 16) (fC (.int 0))) (fvar 22)) (fvar 21) (fvar 16)))
def t15i : FS := fLk 14 (fFor (fItems (fvar 14)) (fGt 2 (fGc (fNm 19) (fGc (fNm 22) fG0))) t15b)
def t15w : FS := fSq (fAs fDK0 (fNm 21)) (fSq t15i (fAs (fvar 21) (fNm 14)))
def t15 : FS := fFor (fSeqI (fE2 ixD (fvar 4) (fC (.int 1)))) (fNm 5) t15w
def t16 : FS := fIfS (fOr (fTb (fE2 neD (fvar 13) (fCB sumD (fAc (fvar 8) fA0)))) (fTb (fE2 geD (fE2 subD (fvar 11) (fvar 10)) (fCB maxLD (fAc (fC (.int 1)) (fAc (fvar 2) fA0)))))) (fRt (fC (.bl false))) fNx
section
variable {w : Wd} {r c k nu : Nat} {b bv wv : Int}
/-- where the counts stand -/
structure CS (w : Wd) (base : Sto) (x : Nat) (st : Nat) (l : List (Int × Int)) (s : Sto) : Prop where
  g : Gr base s
  ge : base.length ≤ st
  at' : s[st]? = some (.dK (enc l))
  c : Cnt w x l
def pay (w : Wd) (x : Nat) (z : Int × Int) : Int := z.2 * (arr w x z.1 - z.1)
theorem inner_ok {base : Sto} (q : RSt w c k b base) {x : Nat} (hx : x < w.m - 1) {st lt : Nat} {l : List (Int × Int)} {s : Sto} (h : CS w base x st l s) {L : Loc} (hL : RGz w r c k b nu bv wv L) (f5 : L[5]? = some (some (wy x))) {T : Int} (f13 : L[13]? = some (some (.int T))) (hT : 0 ≤ T ∧ T ≤ 1000000)
    (f14 : L[14]? = some (some (.ref st))) (f21 : L[21]? = some (some (.ref lt))) (hlt : s[lt]? = some (.dK [])) (hb : base.length ≤ lt) (hne : st ≠ lt) :
    ∃ L' s' l', t15i L s = some (.nx, L', s') ∧ RGz w r c k b nu bv wv L' ∧ L'[21]? = some (some (.ref lt)) ∧ L'[13]? = some (some (.int (T + (l.map (pay w x)).sum))) ∧ CS w base (x + 1) lt l' s' := by
  have o := q.o
  have m6 := o.m6
  have sl := (List.getElem?_eq_some_iff.mp h.at').1
  have ll := (List.getElem?_eq_some_iff.mp hlt).1
  obtain ⟨s1, hs1⟩ : ∃ s1, s1 = s.set st (.lk (.dK (enc l))) := ⟨_, rfl⟩
  have a1 : s1[st]? = some (.lk (.dK (enc l))) := by rw [hs1, List.getElem?_set_self sl]
  have a2 : s1[lt]? = some (.dK []) := by rw [hs1, List.getElem?_set_ne hne, hlt]
  have g1 : Gr base s1 := by rw [hs1]; exact h.g.set h.ge _
  have eI : fItems (fvar 14) L s1 = some (⟨l.map pr2, []⟩, s1) := by
    have e : itemsT (enc l) = l.map pr2 := by
      unfold itemsT enc
      rw [List.map_map]
      rfl
    unfold fItems
    rw [v_at f14]
    simp only [Option.bind_some, a1, e]
  have hpay : ∀ z ∈ l, 0 ≤ pay w x z ∧ pay w x z ≤ 240 := by
    intro z hz
    have h1 := h.c.nn z hz
    have h2 := h.c.le o z hz
    have h3 := arr_bd o x z.1
    unfold pay
    have e1 : 0 ≤ arr w x z.1 - z.1 := by omega
    refine ⟨Int.mul_nonneg h1 e1, ?_⟩
    have := Int.mul_le_mul h2 (show arr w x z.1 - z.1 ≤ 20 by omega) e1 (by omega)
    omega
  have hsum : ∀ j, j ≤ l.length → 0 ≤ ((l.take j).map (pay w x)).sum ∧ ((l.take j).map (pay w x)).sum ≤ 240 * j := by
    intro j
    induction j with
    | zero => intro _; simp
    | succ j ih =>
      intro hj
      have := ih (by omega)
      have hjl : j < l.length := by omega
      have hp := hpay l[j] (List.getElem_mem hjl)
      rw [List.take_succ, List.getElem?_eq_getElem hjl]
      simp only [Option.toList_some, List.map_append, List.sum_append, List.map_cons, List.map_nil, List.sum_cons, List.sum_nil]
      omega
  obtain ⟨L', s', e1, ⟨hL', f21', f13', g', hst', l', hlt', nd', sm', nn', tm', ln'⟩⟩ := for_inv (fg := fGt 2 (fGc (fNm 19) (fGc (fNm 22) fG0))) (fb := t15b) eI
    (fun j L s => RGz w r c k b nu bv wv L ∧ L[21]? = some (some (.ref lt)) ∧ L[13]? = some (some (.int (T + ((l.take j).map (pay w x)).sum))) ∧ Gr base s ∧ L[5]? = some (some (wy x)) ∧ ∃ l', s[lt]? = some (.dK (enc l')) ∧ (l'.map (·.1)).Nodup ∧
      (∀ φ, Wt φ l' = Wt (fun t => φ (arr w x t)) (l.take j)) ∧ (∀ z ∈ l', 0 ≤ z.2) ∧ (∀ z ∈ l', 0 ≤ z.1 ∧ z.1 ≤ 12 + 20 * ((x + 1 : Nat) : Int)) ∧ l'.length ≤ j) (fun _ _ _ _ => rfl) (by
      intro j d L s hd ⟨hL, f21, f13, g, f5, l', hlt', nd', sm', nn', tm', ln'⟩
      rw [List.getElem?_map] at hd
      obtain ⟨z, hz, rfl⟩ := Option.map_eq_some_iff.mp hd
      have hjl := (List.getElem?_eq_some_iff.mp hz).1
      have hzm := List.mem_of_getElem? hz
      have hz1 := h.c.tm z hzm
      have hz2 := h.c.nn z hzm
      have hz3 := h.c.le o z hzm
      have ar := arr_bd o x z.1
      have ql := q.grow g
      have hx6 : (x : Int) ≤ 5 := by omega
      have c1 := f_goes o ql.kn hx (t := z.1) (by omega) (by omega)
      obtain ⟨L1, hL1e⟩ : ∃ L1, L1 = (L.set 19 (some (D.int z.1))).set 22 (some (.int z.2)) := ⟨_, rfl⟩
      have hL1 : RGz w r c k b nu bv wv L1 := by rw [hL1e]; exact (hL.set (.inr (by omega)) _).set (.inr (by omega)) _
      have b5 : L1[5]? = some (some (wy x)) := by rw [hL1e]; exact set_of (set_of f5 (by omega)) (by omega)
      have b13 := (by rw [hL1e]; exact set_of (set_of f13 (by omega)) (by omega) : L1[13]? = some (some (.int (T + ((l.take j).map (pay w x)).sum))))
      have b19 : L1[19]? = some (some (.int z.1)) := by rw [hL1e]; exact set_of (set_at (by rw [hL.rf.len]; omega)) (by omega)
      have b22 : L1[22]? = some (some (.int z.2)) := by rw [hL1e]; exact set_at (by rw [List.length_set, hL.rf.len]; omega)
      have b21 : L1[21]? = some (some (.ref lt)) := by rw [hL1e]; exact set_of (set_of f21 (by omega)) (by omega)
      obtain ⟨L2, hL2e⟩ : ∃ L2, L2 = (L1.set 23 (some (D.int (go w x z.1)))).set 16 (some (.int (arr w x z.1))) := ⟨_, rfl⟩
      have hL2 : RGz w r c k b nu bv wv L2 := by rw [hL2e]; exact (hL1.set (.inr (by omega)) _).set (.inr (by omega)) _
      have d5 : L2[5]? = some (some (wy x)) := by rw [hL2e]; exact set_of (set_of b5 (by omega)) (by omega)
      have d13 := (by rw [hL2e]; exact set_of (set_of b13 (by omega)) (by omega) : L2[13]? = some (some (.int (T + ((l.take j).map (pay w x)).sum))))
      have d19 : L2[19]? = some (some (.int z.1)) := by rw [hL2e]; exact set_of (set_of b19 (by omega)) (by omega)
      have d22 : L2[22]? = some (some (.int z.2)) := by rw [hL2e]; exact set_of (set_of b22 (by omega)) (by omega)
      have d21 : L2[21]? = some (some (.ref lt)) := by rw [hL2e]; exact set_of (set_of b21 (by omega)) (by omega)
      have d16 : L2[16]? = some (some (.int (arr w x z.1))) := by rw [hL2e]; exact set_at (by rw [List.length_set, hL1.rf.len]; omega)
      have p1 : fAs (fCall F__law_goes (fAc (fvar 3) (fAc (fvar 2) (fAc (fvar 5) (fAc (fvar 19) fA0))))) (fGt 2 (fGc (fNm 23) (fGc (fNm 16) fG0))) L1 s = some (.nx, L2, s) := by
        rw [hL2e]
        simp -implicitDefEqProofs [hL1.rf.f3, hL1.rf.f2, b5, b19, c1]
      have m1 := mul64 (i := z.2) (j := arr w x z.1 - z.1) (by omega) (by omega) s
      obtain ⟨L3, hL3e⟩ : ∃ L3, L3 = L2.set 13 (some (D.int (T + ((l.take j).map (pay w x)).sum + z.2 * (arr w x z.1 - z.1)))) := ⟨_, rfl⟩
      have hL3 : RGz w r c k b nu bv wv L3 := by rw [hL3e]; exact hL2.set (.inr (by omega)) _
      have p2 : fAs (fE2 addD (fvar 13) (fE2 mulD (fvar 22) (fE2 subD (fvar 16) (fvar 19)))) (fNm 13) L2 s = some (.nx, L3, s) := by
        rw [hL3e]
        exact as_nm (by simp -implicitDefEqProofs [d13, d22, d16, d19, m1])
      have e5 : L3[5]? = some (some (wy x)) := by rw [hL3e]; exact set_of d5 (by omega)
      have e22 : L3[22]? = some (some (.int z.2)) := by rw [hL3e]; exact set_of d22 (by omega)
      have e21 : L3[21]? = some (some (.ref lt)) := by rw [hL3e]; exact set_of d21 (by omega)
      have e16 : L3[16]? = some (some (.int (arr w x z.1))) := by rw [hL3e]; exact set_of d16 (by omega)
      obtain ⟨v, l2, u1, u2, u3, u4, u5, u6, u7⟩ := upd_ok nd' (arr w x z.1) z.2
      have isd : isDictR s (.ref lt) = true := by
        unfold isDictR
        simp only [hlt']
        rfl
      have dg : dget s lt (.int (arr w x z.1)) = some (valD (enc l') (.inl (arr w x z.1))) := by
        unfold dget
        rw [hlt']
        rfl
      have ge := i_Get2 (fd := fvar 21) (fk := fvar 16) (fx := fC (.int 0)) (L := L3) (v_at e21 s) isd (v_at e16 s) rfl dg
      rw [u1] at ge
      have hl12 := h.c.ln
      have p3 : fPut (fE2 addD (fGet2 (fvar 21) (fvar 16) (fC (.int 0))) (fvar 22)) (fvar 21) (fvar 16) L3 s = some (.nx, L3, s.set lt (.dK (putD (enc l') (.inl (arr w x z.1)) (.int (v + z.2))))) :=
        i_Put (v := .int (v + z.2)) (by
          rw [e_E2, ge]
          simp -implicitDefEqProofs [e22]) (v_at e21 s) (v_at e16 s) (putO_K hlt' rfl (by unfold enc; rw [List.length_map, sizeLine_eq]; omega))
      rw [u2] at p3
      refine ⟨L1, s, L3, _, by rw [hL1e]; rfl, sq_nx p1 (sq_nx p2 p3), hL3, e21, ?_, g.set hb _, e5, l2, ?_, u3, ?_, u5 hz2 nn', ?_, by omega⟩
      · rw [hL3e, set_at (by rw [hL2.rf.len]; omega), List.take_succ, hz]
        simp only [Option.toList_some, List.map_append, List.sum_append, List.map_cons, List.map_nil, List.sum_cons, List.sum_nil, Int.add_zero, ← Int.add_assoc]
        rfl
      · rw [List.getElem?_set_self (List.getElem?_eq_some_iff.mp hlt').1]
      · intro φ
        rw [u4, sm', List.take_succ, hz]
        simp only [Option.toList_some]
        rw [Wt_app, Wt_cons]
        simp [Wt]
      · intro y hy
        rcases u6 y hy with e | ⟨y', hy', e⟩
        · rw [e]
          omega
        · rw [← e]
          exact tm' y' hy')
    ⟨hL, f21, by simpa using f13, g1, f5, [], a2, by simp, fun φ => by simp [Wt], by simp, by simp, by simp⟩
  rw [List.length_map, List.take_of_length_le (Nat.le_refl _)] at f13' sm'
  rw [List.length_map] at ln'
  have st' : ∀ {t : Sto}, True := fun {_} => trivial
  have e2 : lkAt 14 L s = some (st, .dK (enc l)) := by
    unfold lkAt
    simp only [f14, h.at']
    rfl
  refine ⟨L', s'.set st (.dK (enc l)), l', ?_, hL', f21', f13', ⟨g'.set h.ge _, hb, ?_, ⟨nd', ?_, nn', tm', by have := h.c.ln; omega⟩⟩⟩
  · unfold t15i fLk
    rw [e2]
    simp only [Option.bind_some]
    rw [← hs1, e1]
    rfl
  · rw [List.getElem?_set_ne hne]
    exact hlt'
  · intro φ
    rw [sm', h.c.sm]
    unfold SumP
    congr 1
    refine List.map_congr_left fun p _ => ?_
    have e := fin_succ w x 0 (p : Int)
    rw [Nat.zero_add] at e
    show φ (arr w x (fin w x 0 p)) = φ (fin w (x + 1) 0 p)
    rw [e]
end
end FL

set_option Elab.async false
set_option linter.all false
set_option maxRecDepth 100000
set_option autoImplicit false
namespace FL
open PySem PySem.Spec PyProof.Rows L2
theorem sumP_bd {f : Int → Int} {B : Int} : ∀ {R : Nat}, (∀ p : Nat, p < R → 0 ≤ f p ∧ f p ≤ B) → 0 ≤ SumP R f ∧ SumP R f ≤ B * R
  | 0, _ => by simp [SumP]
  | R + 1, h => by
    have ih := sumP_bd (f := f) (B := B) (R := R) fun p hp => h p (by omega)
    have hR := h R (by omega)
    have e : SumP (R + 1) f = SumP R f + f (R : Nat) := by
      unfold SumP
      rw [List.range_succ, List.map_append, List.sum_append]
      simp
    have e2 : B * ((R + 1 : Nat) : Int) = B * R + B := by
      rw [Int.natCast_succ, Int.mul_add, Int.mul_one]
    rw [e, e2]
    omega
theorem spread {w : Wd} (o : w.Ok) {y z : Int} (hy : y ∈ nums w) (hz : z ∈ nums w) : y - z < w.R := by
  obtain ⟨p, hp, rfl⟩ := List.mem_map.mp hy
  obtain ⟨q, hq, rfl⟩ := List.mem_map.mp hz
  rw [List.mem_range] at hp hq
  unfold lev
  rcases Nat.le_total p q with h | h
  · have := fin_mono o (w.m - 1 - 0) 0 (t := (p : Int)) (u := (q : Int)) (by omega)
    omega
  · have h1 := fin_mono o (w.m - 1 - 0) 0 (t := (p : Int)) (u := (q : Int) + w.R) (by omega)
    have h2 := fin_add o (w.m - 1 - 0) 0 (q : Int)
    by_cases e : p = q
    · subst e
      have := o.r1
      omega
    · omega
def l0 (R : Nat) : List (Int × Int) := (List.range R).map fun p : Nat => ((p : Int), 1)
theorem pairsK_l0 : ∀ l : List Nat, pairsK (l.map fun p : Nat => D.tup [.int p, .int 1]) = some (enc (l.map fun p : Nat => ((p : Int), (1 : Int))))
  | [] => rfl
  | p :: l => by
    have e : pairsK ((p :: l).map fun p : Nat => D.tup [.int p, .int 1]) = (pairsK (l.map fun p : Nat => D.tup [.int p, .int 1])).map fun t => ((.inl (p : Int) : Key), D.int 1) :: t := rfl
    rw [e, pairsK_l0 l]
    rfl
theorem l0_nodup (R : Nat) : ((l0 R).map (·.1)).Nodup := by
  unfold l0
  rw [List.map_map]
  refine List.pairwise_map.mpr (List.nodup_range.imp fun hab e => hab ?_)
  simp only [Function.comp_apply] at e
  omega
theorem enc_nodup {l : List (Int × Int)} (h : (l.map (·.1)).Nodup) : ((enc l).map (·.1)).Nodup := by
  unfold enc
  rw [List.map_map]
  have : ((l.map (·.1)).map fun i : Int => (Sum.inl i : Key)).Nodup := List.pairwise_map.mpr (h.imp fun hab e => hab (by injection e))
  rw [List.map_map] at this
  exact this
theorem cnt0 {w : Wd} (o : w.Ok) : Cnt w 0 (l0 w.R) := by
  have r12 := o.r12
  refine ⟨l0_nodup _, fun φ => ?_, ?_, ?_, by simp [l0]; omega⟩
  · unfold Wt l0 SumP
    rw [List.map_map]
    congr 1
    refine List.map_congr_left fun p _ => ?_
    show 1 * φ (p : Int) = φ (fin w 0 0 p)
    rw [Int.one_mul]
    rfl
  · intro z hz
    obtain ⟨p, _, rfl⟩ := List.mem_map.mp hz
    show (0 : Int) ≤ 1
    omega
  · intro z hz
    obtain ⟨p, hp, rfl⟩ := List.mem_map.mp hz
    rw [List.mem_range] at hp
    show (0 : Int) ≤ p ∧ (p : Int) ≤ 12 + 20 * ((0 : Nat) : Int)
    omega
section
variable {w : Wd} {r c k nu : Nat} {b bv wv : Int}
theorem tot_ok {L : Loc} {s : Sto} (hL : RGz w r c k b nu bv wv L) (q : RSt w c k b s) (hn : s[nu]? = some (.lst ((nums w).map .int))) (hb : bv ∈ nums w) (hw : wv ∈ nums w) :
    ∃ L' s', fSq t14 (fSq t15 t16) L s = some (.nx, L', s') ∧ RF w r c k b L' ∧ Gr s s' := by
  have o := q.o
  have m2 := o.m2
  have m6 := o.m6
  have r1 := o.r1
  have r12 := o.r12
  have i1 : ∀ s, ixD (flo w.m) (.int 1) s = some (.ft (ways w.m), s) := fun s => ix_T rfl s
  obtain ⟨s1, e1, g1, k1⟩ := lc_range (fi := fRng1 (fAc (fvar 2) fA0)) (fg := fNm 19) (fe := fTup (fAc (fvar 19) (fAc (fC (.int 1)) fA0))) (vs := [19]) (L := L) (s := s) (s0 := s) (n := w.R) (g := fun p => D.int (p : Nat)) (h := fun p => .tup [.int (p : Nat), .int 1]) (c := [])
    (i_Rng1 (v_at hL.rf.f2 _) (by omega)) (by simp) (fun p hp => ⟨(wipeL L [19]).set 19 (some (.int (p : Nat))), fun _ => rfl, fun s2 g2 => ⟨s2, by
      have l19 : ((wipeL L [19]).set 19 (some (D.int (p : Nat))))[19]? = some (some (.int (p : Nat))) := set_at (by simp [wipeL, hL.rf.len])
      obtain ⟨Lw, hLw⟩ : ∃ Lw, Lw = (wipeL L [19]).set 19 (some (D.int (p : Nat))) := ⟨_, rfl⟩
      rw [← hLw] at l19 ⊢
      simp -implicitDefEqProofs [l19, sz2], Gr.refl _⟩⟩) (by omega)
  have d1 : dictKD [.ref s.length] s1 = some (.ref s1.length, s1 ++ [.dK (enc (l0 w.R))]) := by
    have e : lstD s1 (.ref s.length) = some ((List.range w.R).map fun p : Nat => D.tup [.int p, .int 1]) := by simp [lstD, k1]
    unfold dictKD
    simp only [e, Option.bind_some, pairsK_l0, Option.map_some]
    show some (D.ref s1.length, s1 ++ [O.dK (mergeD [] (enc (l0 w.R)))]) = _
    rw [merge_app _ _ (by simpa using enc_nodup (l0_nodup w.R)), List.nil_append]
  obtain ⟨s2, hs2⟩ : ∃ s2, s2 = s1 ++ [O.dK (enc (l0 w.R))] := ⟨_, rfl⟩
  rw [← hs2] at d1
  have g2 : Gr s s2 := g1.trans ⟨_, hs2⟩
  obtain ⟨L1, hL1e⟩ : ∃ L1, L1 = (L.set 13 (some (D.int 0))).set 14 (some (.ref s1.length)) := ⟨_, rfl⟩
  have hL1 : RGz w r c k b nu bv wv L1 := by rw [hL1e]; exact (hL.set (.inr (by omega)) _).set (.inr (by omega)) _
  have p14 : t14 L s = some (.nx, L1, s2) := by
    rw [hL1e]
    unfold t14
    simp -implicitDefEqProofs [e1, d1]
  have eI : fSeqI (fE2 ixD (fvar 4) (fC (.int 1))) L1 s2 = some (⟨ways w.m, []⟩, s2) := by
    simp -implicitDefEqProofs [fSeqI, seqI, hL1.rf.f4, i1]
  have f0 : L1[13]? = some (some (.int (SumP w.R fun p => fin w 0 0 p - p))) := by
    rw [hL1e]
    have : (SumP w.R fun p => fin w 0 0 p - p) = 0 := by
      have e : ∀ p : Int, fin w 0 0 p - p = 0 := fun p => by
        show p - p = 0
        omega
      simp only [e]
      unfold SumP
      generalize w.R = n
      induction n with
      | zero => rfl
      | succ n ih => rw [List.range_succ, List.map_append, List.sum_append, ih]; rfl
    rw [this]
    exact set_of (set_at (by rw [hL.rf.len]; omega)) (by omega)
  have f14 : L1[14]? = some (some (.ref s1.length)) := by rw [hL1e]; exact set_at (by rw [List.length_set, hL.rf.len]; omega)
  obtain ⟨L2, s3, p15, ⟨hL2, g3, st, l, hc, h14, h13⟩⟩ := for_inv (fg := fNm 5) (fb := t15w) eI
    (fun x L s' => RGz w r c k b nu bv wv L ∧ Gr s s' ∧ ∃ st l, CS w s x st l s' ∧ L[14]? = some (some (.ref st)) ∧ L[13]? = some (some (.int (SumP w.R fun p => fin w x 0 p - p)))) (fun _ _ _ _ => rfl) (by
      intro x d L s' hd ⟨hL, g, st, l, hc, h14, h13⟩
      have hx : x < w.m - 1 := by
        have := (List.getElem?_eq_some_iff.mp hd).1
        simpa [ways] using this
      have hd' : d = wy x := by
        unfold ways at hd
        rw [List.getElem?_map, List.getElem?_range hx] at hd
        exact (Option.some.inj hd).symm
      subst hd'
      obtain ⟨L3, hL3e⟩ : ∃ L3, L3 = L.set 5 (some (wy x)) := ⟨_, rfl⟩
      have hL3 : RGz w r c k b nu bv wv L3 := by rw [hL3e]; exact hL.set (.inl rfl) _
      obtain ⟨L4, hL4e⟩ : ∃ L4, L4 = L3.set 21 (some (D.ref s'.length)) := ⟨_, rfl⟩
      have hL4 : RGz w r c k b nu bv wv L4 := by rw [hL4e]; exact hL3.set (.inr (by omega)) _
      have p1 : fAs fDK0 (fNm 21) L3 s' = some (.nx, L4, s' ++ [.dK []]) := by
        rw [hL4e]
        exact as_nm rfl
      have f5 : L4[5]? = some (some (wy x)) := by rw [hL4e, hL3e]; exact set_of (set_at (by rw [hL.rf.len]; omega)) (by omega)
      have f21 : L4[21]? = some (some (.ref s'.length)) := by rw [hL4e]; exact set_at (by rw [hL3.rf.len]; omega)
      have f13 : L4[13]? = some (some (.int (SumP w.R fun p => fin w x 0 p - p))) := by rw [hL4e, hL3e]; exact set_of (set_of h13 (by omega)) (by omega)
      have f14 : L4[14]? = some (some (.ref st)) := by rw [hL4e, hL3e]; exact set_of (set_of h14 (by omega)) (by omega)
      have gap1 : Gr s' (s' ++ [O.dK []]) := Gr.app _ _
      have hc1 : CS w s x st l (s' ++ [O.dK []]) := ⟨hc.g.trans gap1, hc.ge, gap1.at hc.at', hc.c⟩
      have hT : 0 ≤ (SumP w.R fun p => fin w x 0 p - p) ∧ (SumP w.R fun p => fin w x 0 p - p) ≤ 1000000 := by
        have hx6 : (x : Int) ≤ 5 := by omega
        have := sumP_bd (f := fun p => fin w x 0 p - p) (B := 100) (R := w.R) fun p _ => by
          have h1 := fin_bd o x 0 (p : Int)
          show 0 ≤ fin w x 0 (p : Int) - p ∧ fin w x 0 (p : Int) - p ≤ 100
          omega
        omega
      have hsl := (List.getElem?_eq_some_iff.mp hc.at').1
      obtain ⟨L5, s5, l', p2, hL5, k21, k13, hc5⟩ := inner_ok q hx hc1 hL4 f5 f13 hT f14 f21 (by simp) g.len (by omega)
      have e13 : (SumP w.R fun p => fin w x 0 p - p) + (l.map (pay w x)).sum = SumP w.R fun p => fin w (x + 1) 0 p - p := by
        have ew : (l.map (pay w x)).sum = Wt (fun t => arr w x t - t) l := rfl
        rw [ew, hc.c.sm, ← sumP_add]
        unfold SumP
        congr 1
        refine List.map_congr_left fun p _ => ?_
        have e := fin_succ w x 0 (p : Int)
        rw [Nat.zero_add] at e
        show fin w x 0 p - p + (arr w x (fin w x 0 p) - fin w x 0 p) = fin w (x + 1) 0 p - p
        rw [e]
        omega
      rw [e13] at k13
      refine ⟨L3, s', L5.set 14 (some (.ref s'.length)), s5, by rw [hL3e]; rfl, sq_nx p1 (sq_nx p2 (as_nm (v_at k21 _))), hL5.set (.inr (by omega)) _, hc5.g, s'.length, l', hc5, set_at (by rw [hL5.rf.len]; omega), set_of k13 (by omega)⟩)
    ⟨hL1, g2, s1.length, l0 w.R, ⟨g2, g1.len, by rw [hs2]; simp, cnt0 o⟩, f14, f0⟩
  have lw : (ways w.m).length = w.m - 1 := by simp [ways]
  rw [lw] at h13
  have sn := sum_at (s := s3) (g3.at hn)
  have en : (nums w).sum = SumP w.R fun p => fin w (w.m - 1) 0 p - p := by
    unfold nums SumP
    congr 1
  have hlt : ¬ (w.R : Int) ≤ wv - bv := by
    have := spread o hw hb
    omega
  have mx : maxLD [.int 1, .int w.R] s3 = some (.int w.R, s3) := by
    show some (D.int (if (w.R : Int) > 1 then (w.R : Int) else 1), s3) = _
    by_cases h : (w.R : Int) > 1
    · rw [if_pos h]
    · rw [if_neg h]
      have : (w.R : Int) = 1 := by omega
      rw [this]
  rw [en] at sn
  have p16 : t16 L2 s3 = some (.nx, L2, s3) := if_no (by
    simp -implicitDefEqProofs [h13, hL2.f8, sn, hL2.f10, hL2.f11, hL2.rf.f2, mx, hlt])
  exact ⟨L2, s3, sq_nx p14 (sq_nx p15 p16), hL2.rf, g3⟩
end
end FL

set_option Elab.async false
set_option linter.all false
set_option maxRecDepth 100000
set_option autoImplicit false
namespace FL
open PySem PySem.Spec PyProof.Rows L2
def t17 : FS := fAs (fCall F__law_trip (fAc (fvar 3) (fAc (fvar 2) (fAc (fvar 1) (fAc (fvar 7) fA0))))) (fGt 2 (fGc (fNm 15) (fGc (fNm 16) fG0)))
def t18 : FS := fIfS (fTb (fE2 neD (fCall F_trip_told (fAc (fvar 4) (fAc (fvar 6) (fAc (fE2 ixD (fvar 1) (fC (.int 0))) (fAc (fvar 7) (fAc (fvar 15) fA0)))))) (fTup (fAc (fE2 ixD (fvar 1) (fE1 negD (fC (.int 1)))) (fAc (fvar 16) fA0))))) (fRt (fC (.bl false))) fNx
def t19 : FS := fAs (fCall F_gates_told (fAc (fvar 4) (fAc (fvar 6) (fAc (fE2 ixD (fvar 1) (fC (.int 0))) (fAc (fE2 ixD (fvar 1) (fE1 negD (fC (.int 1)))) (fAc (fvar 7) fA0)))))) (fNm 17)
def t20 : FS := fIfS (fOr (fTb (fE2 neD (fCB reprD (fAc (fE2 ixD (fvar 17) (fC (.int 1))) fA0)) (fCB reprD (fAc (fE2 subD (fvar 16) (fvar 7)) fA0)))) (fTb (fE2 isnD (fCall F_shows_gates (fAc (fvar 4) (fAc (fvar 6) (fAc (fE2 ixD (fvar 1) (fC (.int 0))) (fAc (fE2 ixD (fvar 1) (fE1 negD (fC (.int 1)))) (fAc (fvar 7) (fAc (fvar 17) fA0))))))) (fC (.bl true))))) (fRt (fC (.bl false))) fNx
def t21 : FS := fIfS (fTb (fE2 isnD (fCall F_shows_gates (fAc (fvar 4) (fAc (fvar 6) (fAc (fE2 ixD (fvar 1) (fC (.int 0))) (fAc (fE2 ixD (fvar 1) (fE1 negD (fC (.int 1)))) (fAc (fvar 7) (fAc (fE2 addD (fE2 addD (fSl (fvar 17) fO0 (fO1 (fC (.int 2)))) (fTup (fAc (fvar 15) fA0))) (fSl (fvar 17) (fO1 (fC (.int 3))) fO0)) fA0))))))) (fC (.bl true)))) (fRt (fC (.bl false))) fNx
def t22 : FS := fRt (fIf (fTb (fE2 eqD (fCB lenD (fAc (fvar 1) fA0)) (fC (.int 2)))) (fE2 eqD (fCall F_gates_told (fAc (fvar 4) (fAc (fvar 6) (fAc (fE2 ixD (fvar 1) (fE1 negD (fC (.int 1)))) (fAc (fE2 ixD (fvar 1) (fC (.int 0))) (fAc (fvar 7) fA0)))))) (fTup (fAc (fC (.str "never")) (fAc (fTup (fAc (fE2 ixD (fvar 1) (fE1 negD (fC (.int 1)))) fA0)) fA0)))) (fC (.bl true)))
section
variable {w : Wd} {r c k : Nat} {b : Int}
theorem end_ok {L : Loc} {s : Sto} (h : RF w r c k b L) (q : RSt w c k b s) : ∃ L', fSq t17 (fSq t18 (fSq t19 (fSq t20 (fSq t21 t22)))) L s = some (.rt (.bl true), L', s) := by
  have o := q.o
  have m2 := o.m2
  have m6 := o.m6
  have b0 := q.b0
  have b1 := q.b1
  have ixl : ∀ {s : Sto}, s[c]? = some (.lst (cells w.m)) → ixD (.ref c) (.int (-1)) s = some (cl (w.m - 1), s) := fun h => ix_L h (cells_last m2)
  have ixf : ∀ {s : Sto}, s[c]? = some (.lst (cells w.m)) → ixD (.ref c) (.int 0) s = some (cl 0, s) := fun h => ix_L h (cells_first m2)
  have xl := ixl q.cl
  have xf := ixf q.cl
  let T : D := .ft (tripL w (w.m - 1) 0 b)
  let N : D := .int (fin w (w.m - 1) 0 b)
  have c1 := trip_law o q.kn q.kl q.cl (t := b) b0 (by omega)
  obtain ⟨L1, hL1e⟩ : ∃ L1, L1 = (L.set 15 (some T)).set 16 (some N) := ⟨_, rfl⟩
  have h1 : RF w r c k b L1 := by rw [hL1e]; exact (h.set (.inr (by omega)) _).set (.inr (by omega)) _
  have a15 : L1[15]? = some (some T) := by rw [hL1e]; exact set_of (set_at (by rw [h.len]; omega)) (by omega)
  have a16 : L1[16]? = some (some N) := by rw [hL1e]; exact set_at (by rw [List.length_set, h.len]; omega)
  have p17 : t17 L s = some (.nx, L1, s) := by
    rw [hL1e]
    unfold t17
    simp -implicitDefEqProofs [h.f3, h.f2, h.f1, h.f7, c1]
    rfl
  have c2 := f_trip_told o b0 (by omega) s (t := b)
  have n1 : neD (.tup [cl (w.m - 1), N]) (.tup [cl (w.m - 1), N]) s = some (.bl false, s) := (ne_same rfl rfl (by show 1 ≤ 60; omega) rfl s).1
  have p18 : t18 L1 s = some (.nx, L1, s) := if_no (by
    simp -implicitDefEqProofs [h1.f4, h1.f6, h1.f1, xf, h1.f7, a15, T, c2, negD, xl, a16, sz2]
    exact by
      have := n1
      simp only [N] at this
      rw [this]
      rfl)
  have c3 := f_told o b0 (by omega) s (t := b)
  obtain ⟨L2, hL2e⟩ : ∃ L2, L2 = L1.set 17 (some (told w b)) := ⟨_, rfl⟩
  have h2 : RF w r c k b L2 := by rw [hL2e]; exact h1.set (.inr (by omega)) _
  have b15 : L2[15]? = some (some T) := by rw [hL2e]; exact set_of a15 (by omega)
  have b16 : L2[16]? = some (some N) := by rw [hL2e]; exact set_of a16 (by omega)
  have b17 : L2[17]? = some (some (told w b)) := by rw [hL2e]; exact set_at (by rw [h1.len]; omega)
  have p19 : t19 L1 s = some (.nx, L2, s) := by
    rw [hL2e]
    exact as_nm (by simp -implicitDefEqProofs [h1.f4, h1.f6, h1.f1, xf, h1.f7, negD, xl, c3])
  have c4 := f_shows o b0 (by omega) s (t := b)
  have x1 : ∀ s, ixD (told w b) (.int 1) s = some (.int (lev w (w.m - 1) 0 b), s) := fun s => ix_T rfl s
  have el : fin w (w.m - 1) 0 b - b = lev w (w.m - 1) 0 b := by
    unfold lev
    rw [Nat.sub_zero]
  have hl1 := lev_nn o (w.m - 1) 0 b
  have hl2 := (lev_bd o (w.m - 1) 0 b).2
  have hl3 : ((w.m - 1 - 0 : Nat) : Int) ≤ 5 := by omega
  have rp := repr_int (a := lev w (w.m - 1) 0 b) (by omega) s
  have isn : ∀ s, isnD (.bl true) (.bl true) s = some (.bl false, s) := fun s => rfl
  have p20 : t20 L2 s = some (.nx, L2, s) := if_no (by
    have e1 : fTb (fE2 neD (fCB reprD (fAc (fE2 ixD (fvar 17) (fC (.int 1))) fA0)) (fCB reprD (fAc (fE2 subD (fvar 16) (fvar 7)) fA0))) L2 s = some (false, s) := by
      simp -implicitDefEqProofs [b17, x1, rp, b16, N, h2.f7, el, ne_str_same]
    rw [e_Or, e1]
    simp only [Option.bind_some, Bool.false_eq_true, if_false]
    simp -implicitDefEqProofs [h2.f4, h2.f6, h2.f1, xf, h2.f7, negD, xl, b17, c4, isn])
  have s1 : ∀ s, slD (told w b) none (some 2) s = some (.tup [.str "comes", .int (lev w (w.m - 1) 0 b)], s) := fun s => rfl
  have s2 : ∀ s, slD (told w b) (some 3) none s = some (.tup [.ft (table w (w.m - 1))], s) := fun s => rfl
  have ad : ∀ s, addD (.tup [.str "comes", .int (lev w (w.m - 1) 0 b)]) (.tup [T]) s = some (.tup [.str "comes", .int (lev w (w.m - 1) 0 b), T], s) := fun s => by
    unfold addD
    simp only
    rw [if_pos (sz _ (by simp))]
    rfl
  have ad2 : ∀ s, addD (.tup [.str "comes", .int (lev w (w.m - 1) 0 b), T]) (.tup [.ft (table w (w.m - 1))]) s = some (told w b, s) := fun s => by
    unfold addD
    simp only
    rw [if_pos (sz _ (by simp))]
    rfl
  have p21 : t21 L2 s = some (.nx, L2, s) := if_no (by
    simp -implicitDefEqProofs [h2.f4, h2.f6, h2.f1, xf, h2.f7, negD, xl, b17, b15, s1, s2, sz1, ad, ad2, c4, isn])
  refine ⟨L2, sq_nx p17 (sq_nx p18 (sq_nx p19 (sq_nx p20 (sq_nx p21 (rt_eq ?_)))))⟩
  have ln := b_lenL q.cl
  rw [cells_len] at ln
  by_cases hm : w.m = 2
  · refine if_yes (s' := s) ?_ ?_
    · simp -implicitDefEqProofs [h2.f1, ln, hm]
    · have nv := f_never o hm b0 (by omega) s (t := b)
      have eq := (ne_same (x := .tup [.str "never", .ft [cl (w.m - 1)]]) (y := .tup [.str "never", .tup [cl (w.m - 1)]]) rfl rfl (by show 2 ≤ 60; omega) rfl s).2
      simp -implicitDefEqProofs [h2.f4, h2.f6, h2.f1, xf, h2.f7, negD, xl, nv, sz1, sz2, eq]
  · refine if_not (s' := s) ?_ rfl
    simp -implicitDefEqProofs [h2.f1, ln]
    omega
end
end FL

set_option Elab.async false
set_option linter.all false
set_option maxRecDepth 100000
set_option autoImplicit false
namespace FL
open PySem PySem.Spec PyProof.Rows L2
/-! ### drawing -/
theorem lc_idx {α : Type} {fi : FI} {fg : FG} {fe : FE} {vs : List Nat} {L : Loc} {s s0 : Sto} (l : List α) {g h : α → D} {c : List (Nat × O)} (hi : fi L s = some (⟨l.map g, c⟩, s0)) (hc : ∀ x ∈ c, s0[x.1]? = some x.2)
    (hE : ∀ a ∈ l, ∃ L', (∀ s, fg (g a) (wipeL L vs) s = some (L', s)) ∧ ∀ s', Gr s0 s' → ∃ s2, fe L' s' = some (h a, s2) ∧ Gr s' s2) (hz : l.length ≤ 1000) :
    ∃ t, fLc fi fg fYes fe vs L s = some (.ref s0.length, t) ∧ Gr s0 t ∧ t[s0.length]? = some (.lst (l.map h)) := by
  obtain ⟨acc, t, e, a1, a2, a3⟩ := lc_inv (fg := fg) (ft := fYes) (fe := fe) (vs := vs) hi (fun i acc s => acc = (l.take i).map h ∧ Gr s0 s ∧ s[s0.length]? = some (.lst acc))
    (fun i acc s ⟨_, g, _⟩ => stands_of fun x hx => g.at (hc x hx))
    (by
      intro i d acc s hd ⟨ha, g, hk⟩
      rw [List.getElem?_map] at hd
      obtain ⟨a, ha', rfl⟩ := Option.map_eq_some_iff.mp hd
      have hin := (List.getElem?_eq_some_iff.mp ha').1
      obtain ⟨L', e1, e2⟩ := hE a (List.mem_of_getElem? ha')
      obtain ⟨s2, e3, g2⟩ := e2 s g
      have hk2 := g2.at hk
      refine ⟨by rw [ha, sizeLine_eq]; simp; omega, L', s, s, h a, s2, e1 s, rfl, e3, hk2, ?_, (g.trans g2).set (Nat.le_refl _) _, ?_⟩
      · rw [ha, List.take_succ, ha']
        simp
      · rw [List.getElem?_set_self (List.getElem?_eq_some_iff.mp hk2).1])
    ⟨rfl, Gr.app _ _, by simp⟩
  refine ⟨t, e, a2, ?_⟩
  rw [List.length_map, List.take_of_length_le (Nat.le_refl _)] at a1
  rw [a3, a1]
def pk {α : Type} (g : Nat → Option (List Int × Int)) (x : Nat) (f : Nat → List Int × Int → α) : List α := (List.range x).filterMap fun i => (g i).map (f i)
theorem pk_pick (w : Wd) {α : Type} (f : Nat → List Int × Int → α) : pk w.g (w.m - 1) f = pick w f := rfl
theorem pk_congr {α : Type} {g g' : Nat → Option (List Int × Int)} {x : Nat} (f : Nat → List Int × Int → α) (h : ∀ i, i < x → g i = g' i) : pk g x f = pk g' x f := by
  unfold pk
  have key : ∀ l : List Nat, (∀ i ∈ l, i < x) → l.filterMap (fun i => (g i).map (f i)) = l.filterMap fun i => (g' i).map (f i) := by
    intro l
    induction l with
    | nil => intro _; rfl
    | cons a l ih =>
      intro hl
      rw [List.filterMap_cons, List.filterMap_cons, h a (hl a (List.mem_cons_self ..)), ih fun i hi => hl i (List.mem_cons_of_mem _ hi)]
  exact key _ fun i hi => List.mem_range.mp hi
theorem pk_succ {α : Type} (g : Nat → Option (List Int × Int)) (x : Nat) (f : Nat → List Int × Int → α) : pk g (x + 1) f = pk g x f ++ ((g x).map (f x)).toList := by
  unfold pk
  rw [List.range_succ, List.filterMap_append]
  congr 1
theorem pk_len {α : Type} (g : Nat → Option (List Int × Int)) (x : Nat) (f : Nat → List Int × Int → α) : (pk g x f).length ≤ x := by
  have := List.length_filterMap_le (fun i => (g i).map (f i)) (List.range x)
  simpa [pk] using this
theorem pk_mem {α : Type} {g : Nat → Option (List Int × Int)} {x : Nat} {f : Nat → List Int × Int → α} {a : α} (h : a ∈ pk g x f) : ∃ i z, i < x ∧ g i = some z ∧ a = f i z := by
  unfold pk at h
  obtain ⟨i, hi, e⟩ := List.mem_filterMap.mp h
  rw [List.mem_range] at hi
  rcases hg : g i with _ | z
  · rw [hg] at e; cases e
  · rw [hg] at e
    exact ⟨i, z, hi, hg, (Option.some.inj e).symm⟩
/-- the gated ways -/
def gi (w : Wd) : List Nat := (List.range (w.m - 1)).filter fun i => (w.g i).isSome
def gz (w : Wd) (i : Nat) : List Int × Int := (w.g i).getD ([], 0)
theorem gi_mem {w : Wd} {i : Nat} (h : i ∈ gi w) : i < w.m - 1 ∧ w.g i = some (gz w i) := by
  unfold gi at h
  rw [List.mem_filter, List.mem_range] at h
  refine ⟨h.1, ?_⟩
  obtain ⟨z, hz⟩ := Option.isSome_iff_exists.mp h.2
  unfold gz
  rw [hz]
  rfl
theorem pick_gi {α : Type} (w : Wd) (f : Nat → List Int × Int → α) : pick w f = (gi w).map fun i => f i (gz w i) := by
  unfold pick gi gz
  generalize List.range (w.m - 1) = l
  induction l with
  | nil => rfl
  | cons i l ih =>
    rcases h : w.g i with _ | z
    · rw [List.filterMap_cons, h, List.filter_cons_of_neg (by rw [h]; simp)]
      exact ih
    · rw [List.filterMap_cons, h, List.filter_cons_of_pos (by rw [h]; rfl), List.map_cons, h]
      simp only [Option.map_some]
      rw [ih]
      rfl
theorem gi_asc (w : Wd) : (gi w).Pairwise (· < ·) := List.Pairwise.filter _ List.pairwise_lt_range
theorem sort_keys {w : Wd} (o : w.Ok) : sortOk ((gi w).map wy) = true ∧ sortDs ((gi w).map wy) = (gi w).map wy := by
  have m6 := o.m6
  constructor
  · have hp := (ways_pure (gi w)).1
    have hd := (ways_pure (gi w)).2
    have ha : alikesB (D.Ps ((gi w).map wy)) = true := alikes_map wy (fun a b => by simp [wy, cl, D.P, D.Ps, W.alike, W.alikeAll]) (fun _ => rfl) _
    have hs : sortableB ((gi w).map wy) = true := by
      unfold sortableB
      rw [Bool.or_eq_true]
      left
      rw [List.all_map, List.all_eq_true]
      intro i _
      rfl
    have hl : ((gi w).map wy).length ≤ sizeLine := sz _ (by
      have : (gi w).length ≤ w.m - 1 := by
        have := List.length_filter_le (fun i => (w.g i).isSome) (List.range (w.m - 1))
        simpa [gi] using this
      rw [List.length_map]
      omega)
    unfold sortOk
    rw [hp, ha, hs, decide_eq_true (show D.deps ((gi w).map wy) ≤ 60 by omega), decide_eq_true hl]
    rfl
  · refine List.mergeSort_of_pairwise ?_
    rw [List.pairwise_map]
    refine List.Pairwise.imp_of_mem ?_ (gi_asc w)
    intro a b ha hb hab
    have h1 := (gi_mem ha).1
    have h2 := (gi_mem hb).1
    have e := ltP_wy (i := b) (j := a) (by omega) (by omega)
    unfold ltP at e
    rw [W.dataLe_eq]
    simp only [cond_false, e]
    simp
    omega
def u1 : FS := fAs (fLc (fRng1 (fAc (fE2 addD (fC (.int 2)) (fCall F__law_take (fAc (fvar 0) (fAc (fC (.int 5)) fA0)))) fA0)) (fNm 24) fYes (fE2 addD (fC (.str "c")) (fCB strD (fAc (fvar 24) fA0))) [24]) (fNm 1)
def u2 : FS := fAs (fTup (fAc (fE2 addD (fC (.int 1)) (fCall F__law_take (fAc (fvar 0) (fAc (fC (.int 12)) fA0)))) (fAc fDT0 fA0))) (fGt 2 (fGc (fNm 2) (fGc (fNm 3) fG0)))
def u3 : FS := fAs (fTup (fAc (fCB tupD (fAc (fvar 1) fA0)) (fAc (fCB tupD (fAc (fLZip (fAc (fvar 1) (fAc (fSl (fvar 1) (fO1 (fC (.int 1))) fO0) fA0))) fA0)) fA0))) (fNm 4)
def u4b : FS := fIfS (fTb (fE2 gtD (fCall F__law_take (fAc (fvar 0) (fAc (fC (.int 4)) fA0))) (fC (.int 0)))) (fPut (fTup (fAc (fCall F__law_phases (fAc (fvar 0) (fAc (fvar 2) fA0))) (fAc (fE2 addD (fC (.int 1)) (fCall F__law_take (fAc (fvar 0) (fAc (fC (.int 9)) fA0)))) fA0))) (fvar 3) (fvar 5)) fNx
def u4 : FS := fFor (fSeqI (fE2 ixD (fvar 4) (fC (.int 1)))) (fNm 5) u4b
def u5 : FS := fAs (fTup (fAc (fvar 2) (fAc (fCB tupD (fAc (fLc (fSeqI (fCB sortD (fAc (fvar 3) fA0))) (fNm 5) fYes (fE2 addD (fvar 5) (fE2 ixD (fvar 3) (fvar 5))) [5]) fA0)) fA0))) (fNm 6)
def u6 : FS := fAs (fCall F__law_take (fAc (fvar 0) (fAc (fC (.int 2000)) fA0))) (fNm 7)
structure RD (r c m R k : Nat) (L : Loc) : Prop where
  len : L.length = 26
  f0 : L[0]? = some (some (.ref r))
  f1 : L[1]? = some (some (.ref c))
  f2 : L[2]? = some (some (.int R))
  f3 : L[3]? = some (some (.ref k))
  f4 : L[4]? = some (some (flo m))
/-- cells, round, floor -/
theorem draw1 {r : Nat} {s : Sto} (hp : Pot r 0 s) : ∃ L s' c m R k, fSq u1 (fSq u2 u3) (startL 26 [.ref r]) s = some (.nx, L, s') ∧ RD r c m R k L ∧ 2 ≤ m ∧ m ≤ 6 ∧ 1 ≤ R ∧ R ≤ 12 ∧ Pot r 2 s' ∧ Ds r s s' ∧ s'[c]? = some (.lst (cells m)) ∧ s'[k]? = some (.dT []) ∧
    s.length ≤ c ∧ s.length ≤ k ∧ c ≠ k := by
  have hr := hp.lt
  obtain ⟨L0, hL0⟩ : ∃ L0, L0 = startL 26 [D.ref r] := ⟨_, rfl⟩
  have l0 : L0.length = 26 := by rw [hL0]; rfl
  have a0 : L0[0]? = some (some (.ref r)) := by rw [hL0]; rfl
  rw [← hL0]
  obtain ⟨d, s1, t1, t2, t3, t4, t5, t6⟩ := take_ok (u := 5) hp (by omega) (by omega) (by omega)
  obtain ⟨m, hm⟩ : ∃ m : Nat, 2 + d = m := ⟨(2 + d).toNat, by omega⟩
  have eF : fRng1 (fAc (fE2 addD (fC (.int 2)) (fCall F__law_take (fAc (fvar 0) (fAc (fC (.int 5)) fA0)))) fA0) L0 s = some (⟨(List.range m).map fun i => D.int (i : Nat), []⟩, s1) :=
    i_Rng1 (by simp -implicitDefEqProofs [a0, t1, hm]) (by omega)
  obtain ⟨s2, e1, g1, k1⟩ := lc_range (fi := fRng1 (fAc (fE2 addD (fC (.int 2)) (fCall F__law_take (fAc (fvar 0) (fAc (fC (.int 5)) fA0)))) fA0)) (fg := fNm 24) (fe := fE2 addD (fC (.str "c")) (fCB strD (fAc (fvar 24) fA0))) (vs := [24]) (L := L0) (s := s) (s0 := s1) (n := m) (g := fun p => D.int (p : Nat)) (h := cl) (c := [])
    eF (by simp) (fun p hp => ⟨(wipeL L0 [24]).set 24 (some (.int (p : Nat))), fun _ => rfl, fun s2 g2 => ⟨s2, by
      have l24 : ((wipeL L0 [24]).set 24 (some (D.int (p : Nat))))[24]? = some (some (.int (p : Nat))) := set_at (by simp [wipeL, l0])
      have hs : strD [.int (p : Int)] s2 = some (.str (toString (p : Int) : String), s2) := by
        show (if (p : Int).natAbs.log2 < 1920 then some (D.str (toString (p : Int)), s2) else none) = _
        rw [if_pos (log_small (by omega))]
      have ha : addD (.str "c") (.str (toString (p : Int) : String)) s2 = some (cl p, s2) := by
        unfold addD
        simp only
        have h1 := int_len (i := (p : Int)) (by omega)
        have h2 : ("c" : Str).length = 1 := rfl
        rw [if_pos (by
          have : ((toString (p : Int) : String) : Str).length ≤ 2000 := h1
          rw [sizeLine_eq, h2]
          omega)]
        rfl
      obtain ⟨Lw, hLw⟩ : ∃ Lw, Lw = (wipeL L0 [24]).set 24 (some (D.int (p : Nat))) := ⟨_, rfl⟩
      rw [← hLw] at l24 ⊢
      rw [e_E2, e_C]
      simp only [Option.bind_some]
      rw [e_CB, e_Ac, v_at l24]
      simp only [Option.bind_some, e_A0, hs]
      exact ha, Gr.refl _⟩⟩) (by omega)
  have k1' : s2[s1.length]? = some (.lst (cells m)) := k1
  obtain ⟨L1, hL1⟩ : ∃ L1, L1 = L0.set 1 (some (D.ref s1.length)) := ⟨_, rfl⟩
  have l1 : L1.length = 26 := by rw [hL1]; simp [l0]
  have b0 : L1[0]? = some (some (.ref r)) := by rw [hL1]; exact set_of a0 (by omega)
  have b1 : L1[1]? = some (some (.ref s1.length)) := by rw [hL1]; exact set_at (by omega)
  have p1 : u1 L0 s = some (.nx, L1, s2) := by rw [hL1]; exact as_nm e1
  obtain ⟨d2, s3, v1, v2, v3, v4, v5, v6⟩ := take_ok (u := 12) (t4.gr g1) (by omega) (by omega) (by omega)
  obtain ⟨R, hR⟩ : ∃ R : Nat, 1 + d2 = R := ⟨(1 + d2).toNat, by omega⟩
  obtain ⟨L2, hL2⟩ : ∃ L2, L2 = (L1.set 2 (some (D.int R))).set 3 (some (.ref s3.length)) := ⟨_, rfl⟩
  have l2 : L2.length = 26 := by rw [hL2]; simp [l1]
  have c0 : L2[0]? = some (some (.ref r)) := by rw [hL2]; exact set_of (set_of b0 (by omega)) (by omega)
  have c1 : L2[1]? = some (some (.ref s1.length)) := by rw [hL2]; exact set_of (set_of b1 (by omega)) (by omega)
  have c2 : L2[2]? = some (some (.int R)) := by rw [hL2]; exact set_of (set_at (by omega)) (by omega)
  have c3 : L2[3]? = some (some (.ref s3.length)) := by rw [hL2]; exact set_at (by rw [List.length_set]; omega)
  let s4 : Sto := s3 ++ [.dT []]
  have g4 : Gr s3 s4 := Gr.app _ _
  have p2 : u2 L1 s2 = some (.nx, L2, s4) := by
    rw [hL2]
    unfold u2
    simp -implicitDefEqProofs [b0, v1, hR, sz2]
    rfl
  have hcr : s1.length ≠ r := by omega
  have hc3 : s3[s1.length]? = some (.lst (cells m)) := v5.at' hcr k1'
  have hc4 := g4.at hc3
  let s5 : Sto := s4 ++ [.lst (cells m).tail] ++ [.lst (ways m)]
  have g5 : Gr s4 s5 := (Gr.app s4 _).trans (Gr.app _ _)
  have p3 : u3 L2 s4 = some (.nx, L2.set 4 (some (flo m)), s5) := as_nm (by
    have z1 : slD (.ref s1.length) (some 1) none s4 = some (.ref s4.length, s4 ++ [.lst (cells m).tail]) := by
      simp [slD, hc4, cut_tail]
    have hz : (s4 ++ [O.lst (cells m).tail])[s1.length]? = some (.lst (cells m)) := (Gr.app s4 _).at hc4
    have hz2 : (s4 ++ [O.lst (cells m).tail])[s4.length]? = some (.lst (cells m).tail) := by simp
    have z2 : fLZip (fAc (fvar 1) (fAc (fSl (fvar 1) (fO1 (fC (.int 1))) fO0) fA0)) L2 s4 = some (.ref (s4.length + 1), s5) := by
      unfold fLZip
      simp -implicitDefEqProofs only [e_Ac, e_Sl, e_O1, e_O0, e_C, e_A0, v_at c1, Option.bind_some, z1, zipF, seqK, hz, hz2, Option.map_some, zip_cells]
      have : (s4 ++ [O.lst (cells m).tail]).length = s4.length + 1 := by simp
      rw [this]
    have z3 : s5[s4.length + 1]? = some (.lst (ways m)) := by
      show (s4 ++ [O.lst (cells m).tail] ++ [.lst (ways m)])[s4.length + 1]? = _
      rw [List.getElem?_append_right (by simp)]
      simp
    rw [e_Tup, e_Ac, tup_of (v_at c1 s4) hc4]
    simp only [Option.bind_some]
    rw [e_Ac, tup_of z2 z3]
    simp only [Option.bind_some, e_A0]
    rw [if_pos (sz _ (by simp))]
    rfl)
  have hk4 : s4[s3.length]? = some (.dT []) := by simp [s4]
  have hl23 := g1.len
  have hl3 := v6
  have hc1 : s1.length < s2.length := (List.getElem?_eq_some_iff.mp k1').1
  refine ⟨_, s5, s1.length, m, R, s3.length, sq_nx p1 (sq_nx p2 p3), ⟨by simp [l2], set_of c0 (by omega), set_of c1 (by omega), set_of c2 (by omega), set_of c3 (by omega), set_at (by omega)⟩, by omega, by omega, by omega, by omega, (v4.gr g4).gr g5, ?_, g5.at hc4, g5.at hk4, by omega, by omega, by omega⟩
  exact (t5.trans (Ds.of_gr g1)).trans (v5.trans ((Ds.of_gr g4).trans (Ds.of_gr g5)))
end FL

set_option Elab.async false
set_option linter.all false
set_option maxRecDepth 100000
set_option autoImplicit false
namespace FL
open PySem PySem.Spec PyProof.Rows L2
theorem RD.set {r c m R k : Nat} {L : Loc} (h : RD r c m R k L) {i : Nat} (hi : 5 ≤ i) (v : Option D) : RD r c m R k (L.set i v) :=
  ⟨by simp [h.len], set_of h.f0 (by omega), set_of h.f1 (by omega), set_of h.f2 (by omega), set_of h.f3 (by omega), set_of h.f4 (by omega)⟩
def kf (i : Nat) (z : List Int × Int) : List Key × D := (ky i, gv z)
theorem pk_no {g : Nat → Option (List Int × Int)} {x : Nat} (hx : x < 5) : valD (pk g x kf) (ky x) = none := by
  rcases h : valD (pk g x kf) (ky x) with _ | d
  · rfl
  · obtain ⟨i, z, hi, _, e⟩ := pk_mem (val_mem h)
    unfold kf at e
    injection e with e _
    exact absurd (ky_inj (i := x) (j := i) hx (by omega) e) (by omega)
structure Good (R : Nat) (x : Nat) (g : Nat → Option (List Int × Int)) : Prop where
  no : ∀ i, x ≤ i → g i = none
  ph : ∀ i z, g i = some z → Phs R z.1 ∧ 1 ≤ z.2 ∧ z.2 ≤ 9
theorem draw2 {r c m R k : Nat} {L : Loc} {s : Sto} (h : RD r c m R k L) (hm : 2 ≤ m) (hm6 : m ≤ 6) (hR : 1 ≤ R) (hR2 : R ≤ 12) (hp : Pot r 2 s) (hc : s[c]? = some (.lst (cells m))) (hk : s[k]? = some (.dT [])) (hcr : c ≠ r) (hkr : k ≠ r) (hck : c ≠ k) :
    ∃ L' s' g, u4 L s = some (.nx, L', s') ∧ RD r c m R k L' ∧ Good R (m - 1) g ∧ Pot r 77 s' ∧ s'.length = s.length ∧ (∀ i, i ≠ r → i ≠ k → s'[i]? = s[i]?) ∧ s'[k]? = some (.dT (pk g (m - 1) kf)) := by
  have i1 : ∀ s, ixD (flo m) (.int 1) s = some (.ft (ways m), s) := fun s => ix_T rfl s
  have eI : fSeqI (fE2 ixD (fvar 4) (fC (.int 1))) L s = some (⟨ways m, []⟩, s) := by
    simp -implicitDefEqProofs [fSeqI, seqI, h.f4, i1]
  obtain ⟨L', s', e, hL', g, hg, hp', hl, ho, hk'⟩ := for_inv (fg := fNm 5) (fb := u4b) eI
    (fun x L s' => RD r c m R k L ∧ ∃ g, Good R x g ∧ Pot r (2 + 15 * x) s' ∧ s'.length = s.length ∧ (∀ i, i ≠ r → i ≠ k → s'[i]? = s[i]?) ∧ s'[k]? = some (.dT (pk g x kf))) (fun _ _ _ _ => rfl) (by
      intro x d L s1 hd ⟨hL, g, hg, hp, hl, ho, hk⟩
      have hx : x < m - 1 := by
        have := (List.getElem?_eq_some_iff.mp hd).1
        simpa [ways] using this
      have hd' : d = wy x := by
        unfold ways at hd
        rw [List.getElem?_map, List.getElem?_range hx] at hd
        exact (Option.some.inj hd).symm
      subst hd'
      obtain ⟨L1, hL1e⟩ : ∃ L1, L1 = L.set 5 (some (wy x)) := ⟨_, rfl⟩
      have hL1 : RD r c m R k L1 := by rw [hL1e]; exact hL.set (Nat.le_refl _) _
      have f5 : L1[5]? = some (some (wy x)) := by rw [hL1e]; exact set_at (by rw [hL.len]; omega)
      obtain ⟨d1, s2, t1, t2, t3, t4, t5, t6⟩ := take_ok (u := 4) hp (by omega) (by omega) (by omega)
      have test : fTb (fE2 gtD (fCall F__law_take (fAc (fvar 0) (fAc (fC (.int 4)) fA0))) (fC (.int 0))) L1 s1 = some (decide (0 < d1), s2) := by
        simp -implicitDefEqProofs [hL1.f0, t1]
      by_cases h0 : 0 < d1
      · rw [decide_eq_true h0] at test
        obtain ⟨ns, s3, v1, v2, v3, v4, v5⟩ := phases_ok (R := R) t4 (by omega) hR hR2
        obtain ⟨d2, s4, w1, w2, w3, w4, w5, w6⟩ := take_ok (u := 9) v3 (by omega) (by omega) (by omega)
        have k4 : s4[k]? = some (.dT (pk g x kf)) := w5.at' hkr (v4.at' hkr (t5.at' hkr hk))
        have hlen := pk_len g x kf
        have pp : fPut (fTup (fAc (fCall F__law_phases (fAc (fvar 0) (fAc (fvar 2) fA0))) (fAc (fE2 addD (fC (.int 1)) (fCall F__law_take (fAc (fvar 0) (fAc (fC (.int 9)) fA0)))) fA0))) (fvar 3) (fvar 5) L1 s2 = some (.nx, L1, s4.set k (.dT (putD (pk g x kf) (ky x) (gv (ns, 1 + d2))))) :=
          i_Put (v := gv (ns, 1 + d2)) (by
            simp -implicitDefEqProofs [hL1.f0, hL1.f2, v1, w1, sz2, gv]) (v_at hL1.f3 s4) (v_at f5 s4) (putO_T (ds := [cl x, cl (x + 1)]) k4 rfl (by rw [sizeLine_eq]; omega))
        let g' : Nat → Option (List Int × Int) := fun i => if i = x then some (ns, 1 + d2) else g i
        have ep : putD (pk g x kf) (ky x) (gv (ns, 1 + d2)) = pk g' (x + 1) kf := by
          rw [pk_succ, pk_congr (g := g') (g' := g) kf fun i hi => if_neg (by omega)]
          have e : g' x = some (ns, 1 + d2) := if_pos rfl
          rw [e]
          unfold putD hasD
          rw [pk_no (by omega)]
          rfl
        rw [ep] at pp
        refine ⟨L1, s1, L1, _, by rw [hL1e]; rfl, ifs_yes test pp, hL1, g', ⟨fun i hi => ?_, fun i z hz => ?_⟩, (w4.mono (by omega)).set hkr _, ?_, fun i hir hik => ?_, ?_⟩
        · show (if i = x then _ else g i) = none
          rw [if_neg (by omega)]
          exact hg.no i (by omega)
        · have hz' : (if i = x then some (ns, 1 + d2) else g i) = some z := hz
          by_cases ei : i = x
          · rw [if_pos ei] at hz'
            cases hz'
            exact ⟨v2, by show 1 ≤ 1 + d2; omega, by show 1 + d2 ≤ 9; omega⟩
          · rw [if_neg ei] at hz'
            exact hg.ph i z hz'
        · rw [List.length_set, w6, v5, t6, hl]
        · rw [List.getElem?_set_ne (fun e => hik e.symm)]
          by_cases hi : i < s.length
          · rw [w5.eq i (by omega) hir, v4.eq i (by omega) hir, t5.eq i (by omega) hir, ho i hir hik]
          · rw [List.getElem?_eq_none (by omega), List.getElem?_eq_none (by omega)]
        · rw [List.getElem?_set_self (List.getElem?_eq_some_iff.mp k4).1]
      · rw [decide_eq_false h0] at test
        refine ⟨L1, s1, L1, s2, by rw [hL1e]; rfl, ifs_no test rfl, hL1, g, ⟨fun i hi => hg.no i (by omega), hg.ph⟩, t4.mono (by omega), by rw [t6, hl], fun i hir hik => ?_, ?_⟩
        · by_cases hi : i < s.length
          · rw [t5.eq i (by omega) hir, ho i hir hik]
          · rw [List.getElem?_eq_none (by omega), List.getElem?_eq_none (by omega)]
        · rw [t5.at' hkr hk, pk_succ, hg.no x (Nat.le_refl _)]
          simp)
    ⟨h, fun _ => none, ⟨fun _ _ => rfl, fun i z hz => by cases hz⟩, hp, rfl, fun _ _ _ => rfl, by
      rw [hk]
      rfl⟩
  have lw : (ways m).length = m - 1 := by simp [ways]
  rw [lw] at hg hp' hk'
  exact ⟨L', s', g, e, hL', hg, hp'.mono (by omega), hl, ho, hk'⟩
/-- all is drawn -/
theorem draw_ok {r : Nat} {s : Sto} (hp : Pot r 0 s) : ∃ w L s' c k b, fSq u1 (fSq u2 (fSq u3 (fSq u4 (fSq u5 u6)))) (startL 26 [.ref r]) s = some (.nx, L, s') ∧ RF w r c k b L ∧ RSt w c k b s' ∧ Ds r s s' := by
  have hr := hp.lt
  obtain ⟨L1, s1, c, m, R, k, e1, h1, m2, m6, r1, r12, p1, d1, hc, hk, lc, lk, hck⟩ := draw1 hp
  obtain ⟨L2, s2, g, e2, h2, hg, p2, l2, o2, hk2⟩ := draw2 h1 m2 m6 r1 r12 p1 hc hk (by omega) (by omega) hck
  let w : Wd := ⟨m, R, g⟩
  have o : w.Ok := ⟨m2, m6, r1, r12, fun i z hz => by
    obtain ⟨a, b1, b2⟩ := hg.ph i z hz
    exact ⟨a.ne, a.rng, a.asc, a.len, b1, b2⟩⟩
  have hkn : s2[k]? = some (.dT (kn w)) := hk2
  have kn2 : Kn w k s2 := by
    unfold Kn
    rw [hkn]
    rfl
  have hc2 : s2[c]? = some (.lst (cells m)) := by rw [o2 c (by omega) hck, hc]
  -- the gates
  have sk := sort_keys o
  have ks : dkeysD (.dT (kn w)) = some ((gi w).map wy) := by
    unfold dkeysD
    show some ((kn w).map _) = _
    unfold kn
    rw [pick_map, pick_gi]
    rfl
  have srt : sortD [.ref k] s2 = some (.ref s2.length, s2 ++ [.lst ((gi w).map wy)]) := by
    unfold sortD
    simp only [hkn, ks, sk.1, if_true, sk.2]
  obtain ⟨s3, hs3⟩ : ∃ s3, s3 = s2 ++ [O.lst ((gi w).map wy)] := ⟨_, rfl⟩
  rw [← hs3] at srt
  have g3 : Gr s2 s3 := ⟨_, hs3⟩
  have hl3 : s3[s2.length]? = some (.lst ((gi w).map wy)) := by rw [hs3]; simp
  have hkl : k < s2.length := (List.getElem?_eq_some_iff.mp hkn).1
  have giL : (gi w).length ≤ 5 := by
    have := List.length_filter_le (fun i => (w.g i).isSome) (List.range (w.m - 1))
    have e : (gi w).length ≤ w.m - 1 := by simpa [gi] using this
    have : w.m ≤ 6 := m6
    omega
  obtain ⟨s4, e4, g4, k4⟩ := lc_idx (gi w) (fi := fSeqI (fCB sortD (fAc (fvar 3) fA0))) (fg := fNm 5) (fe := fE2 addD (fvar 5) (fE2 ixD (fvar 3) (fvar 5))) (vs := [5]) (L := L2) (s := s2) (s0 := s3) (g := wy) (h := fun i => gt i (gz w i)) (c := [(s2.length, .lst ((gi w).map wy))])
    (by simp -implicitDefEqProofs [fSeqI, h2.f3, srt, seqI, hl3]) (by
      intro x hx
      simp only [List.mem_cons, List.not_mem_nil, or_false] at hx
      subst hx
      exact hl3) (fun i hi => ⟨(wipeL L2 [5]).set 5 (some (wy i)), fun _ => rfl, fun s' g' => ⟨s', by
      obtain ⟨hi1, hi2⟩ := gi_mem hi
      have kn' := kn2.grow hkl (g3.trans g')
      have ix := ix_ref kn'.notL (by rw [kn'.get o hi1, hi2]; rfl : dget s' k (wy i) = some (some (gv (gz w i))))
      have hw : RD r c m R k ((wipeL L2 [5]).set 5 (some (wy i))) := (h2.set (i := 5) (Nat.le_refl _) none).set (Nat.le_refl _) _
      have l5 : ((wipeL L2 [5]).set 5 (some (wy i)))[5]? = some (some (wy i)) := set_at (by simp [wipeL, h2.len])
      obtain ⟨Lw, hLw⟩ : ∃ Lw, Lw = (wipeL L2 [5]).set 5 (some (wy i)) := ⟨_, rfl⟩
      rw [← hLw] at hw l5 ⊢
      simp -implicitDefEqProofs [l5, hw.f3, ix]
      unfold addD wy gv
      simp only
      rw [if_pos (sz _ (by simp))]
      rfl, Gr.refl _⟩⟩) (by omega)
  have k4' : s4[s3.length]? = some (.lst (pick w gt)) := by rw [k4, pick_gi]
  have p5 : u5 L2 s2 = some (.nx, L2.set 6 (some (gates w)), s4) := as_nm (by
    rw [e_Tup, e_Ac, v_at h2.f2]
    simp only [Option.bind_some]
    rw [e_Ac, tup_of e4 k4']
    simp only [Option.bind_some, e_A0]
    rw [if_pos (sz _ (by simp))]
    rfl)
  obtain ⟨L3, hL3⟩ : ∃ L3, L3 = L2.set 6 (some (gates w)) := ⟨_, rfl⟩
  have h3 : RD r c m R k L3 := by rw [hL3]; exact h2.set (by omega) _
  have f6 : L3[6]? = some (some (gates w)) := by rw [hL3]; exact set_at (by rw [h2.len]; omega)
  rw [← hL3] at p5
  have g24 := g3.trans g4
  obtain ⟨b, s5, t1, t2, t3, t4, t5, t6⟩ := take_ok (u := 2000) (p2.gr g24) (by omega) (by omega) (by omega)
  have p6 : u6 L3 s4 = some (.nx, L3.set 7 (some (.int b)), s5) := as_nm (by simp -implicitDefEqProofs [h3.f0, t1])
  have kn4 := kn2.grow hkl g24
  have hgl := g24.len
  have kn5 : Kn w k s5 := by
    unfold Kn at kn4 ⊢
    rw [t5.eq k (by omega) (by omega)]
    exact kn4
  have assoc : ∀ {f1 f2 f3 f4 : FS} {L L' : Loc} {s s' : Sto} {r : Option (Fl × Loc × Sto)}, fSq f1 (fSq f2 f3) L s = some (.nx, L', s') → f4 L' s' = r → fSq f1 (fSq f2 (fSq f3 f4)) L s = r := by
    intro f1 f2 f3 f4 L L' s s' r h1 h2
    unfold fSq at h1 ⊢
    rcases hx : f1 L s with _ | ⟨fl, La, sa⟩
    · rw [hx] at h1; cases h1
    · rw [hx] at h1
      simp only [Option.bind_some] at h1 ⊢
      cases fl with
      | nx =>
        simp only at h1 ⊢
        rcases hy : f2 La sa with _ | ⟨fl2, Lb, sb⟩
        · rw [hy] at h1; cases h1
        · rw [hy] at h1
          simp only [Option.bind_some] at h1 ⊢
          cases fl2 with
          | nx =>
            simp only at h1 ⊢
            rw [h1]
            exact h2
          | _ => cases h1
      | _ => cases h1
  refine ⟨w, L3.set 7 (some (.int b)), s5, c, k, b, assoc e1 (sq_nx e2 (sq_nx p5 p6)), ⟨by simp [h3.len], set_of h3.f0 (by omega), set_of h3.f1 (by omega), set_of h3.f2 (by omega), set_of h3.f3 (by omega), set_of h3.f4 (by omega), set_of f6 (by omega), set_at (by rw [h3.len]; omega)⟩,
    ⟨o, fun i z hz => (hg.ph i z hz).1, kn5, by omega, t5.at' (by omega) (g24.at hc2), t2, t3⟩, ?_⟩
  have ds2 : Ds r s1 s2 ∨ True := .inr trivial
  refine ⟨by have := d1.le; omega, fun i hi hir => ?_⟩
  have := d1.le
  rw [t5.eq i (by omega) hir]
  have e24 : s4[i]? = s2[i]? := by
    obtain ⟨q, hq⟩ := g24
    rw [hq, List.getElem?_append_left (by omega)]
  rw [e24, o2 i hir (by omega), d1.eq i hi hir]
end FL

set_option Elab.async false
set_option linter.all false
set_option maxRecDepth 100000
set_option autoImplicit false
namespace FL
open PySem PySem.Spec PyProof.Rows L2
theorem sq_assoc (f g h : FS) : fSq (fSq f g) h = fSq f (fSq g h) := by
  funext L s
  unfold fSq
  rcases f L s with _ | ⟨fl, L1, s1⟩
  · rfl
  · cases fl <;> rfl
theorem B_right_eq : B__law_right = fSq (fSq u1 (fSq u2 (fSq u3 (fSq u4 (fSq u5 u6))))) (fSq st7 (fSq (fSq t8 (fSq t9 (fSq t10 (fSq t11 (fSq t12 t13))))) (fSq (fSq t14 (fSq t15 t16)) (fSq t17 (fSq t18 (fSq t19 (fSq t20 (fSq t21 t22)))))))) := by
  simp -implicitDefEqProofs only [sq_assoc]
  rfl
theorem right_ok {r : Nat} {s : Sto} (hp : Pot r 0 s) : ∃ s', F__law_right [.ref r] s = some (.bl true, s') ∧ Ds r s s' := by
  obtain ⟨w, L1, s1, c, k, b, e1, h1, q1, d1⟩ := draw_ok hp
  obtain ⟨L2, s2, e2, h2, g2⟩ := st7_ok h1 q1
  obtain ⟨L3, s3, nu, bv, wv, e3, h3, g3, f8, hn, f10, f11, hb, hw⟩ := mid_ok h2 (q1.grow g2)
  obtain ⟨L4, s4, e4, h4, g4⟩ := tot_ok ⟨h3, f8, f10, f11⟩ ((q1.grow g2).grow g3) hn hb hw
  obtain ⟨L5, e5⟩ := end_ok h4 (((q1.grow g2).grow g3).grow g4)
  have hB : B__law_right (startL 26 [.ref r]) s = some (.rt (.bl true), L5, s4) := by
    rw [B_right_eq]
    exact sq_nx e1 (sq_nx e2 (sq_nx e3 (sq_nx e4 e5)))
  obtain ⟨t', hg, hd⟩ := gc_any (d := .bl true) (d1.trans (Ds.of_gr ((g2.trans g3).trans g4)))
  exact ⟨t', run_rt rfl hB hg, hd⟩
theorem gr_of {s t : Sto} (hl : s.length ≤ t.length) (h : ∀ i, i < s.length → t[i]? = s[i]?) : Gr s t := by
  refine ⟨t.drop s.length, ?_⟩
  apply List.ext_getElem?
  intro i
  by_cases hi : i < s.length
  · rw [List.getElem?_append_left hi, h i hi]
  · rw [List.getElem?_append_right (by omega), List.getElem?_drop]
    congr 1
    omega
theorem cells_ok' {ns : List Int} {s : Sto} (h : s[0]? = some (.rol (ns.map .int))) : ∃ n : Nat, n ≤ 3 ∧ F__law_cells [.ref 0, .int 3] s = some (.ref s.length, s ++ [.lst ((List.range n).map fun p => D.int (p : Nat))]) := by
  have l1 := b_lenR h
  obtain ⟨a, ha⟩ : ∃ a : Int, a = (if (ns.length : Int) < 3 then (ns.length : Int) else 3) := ⟨_, rfl⟩
  obtain ⟨b, hb⟩ : ∃ b : Int, b = (if a > 1 then a else 1) := ⟨_, rfl⟩
  have ha2 : 0 ≤ a ∧ a ≤ 3 := by
    rw [ha]
    split <;> omega
  have hb2 : 1 ≤ b ∧ b ≤ 3 := by
    rw [hb]
    split <;> omega
  obtain ⟨n, hn⟩ : ∃ n : Nat, b = n := ⟨b.toNat, by omega⟩
  refine ⟨n, by omega, ?_⟩
  have m1 : minLD [.int 3, .int ns.length] s = some (.int a, s) := by rw [ha]; rfl
  have m2 : maxLD [.int 1, .int a] s = some (.int b, s) := by rw [hb]; rfl
  have e := i_LRg1 (f := fCB maxLD (fAc (fC (.int 1)) (fAc (fCB minLD (fAc (fvar 1) (fAc (fCB lenD (fAc (fvar 0) fA0)) fA0))) fA0))) (L := [some (.ref 0), some (.int 3)]) (s := s) (s' := s) (j := b) (by
    have l1' : lenD [.ref 0] s = some (.int ns.length, s) := by rw [l1, List.length_map]
    simp -implicitDefEqProofs [l1', m1, m2]) (rgOkB_in (by omega) (by omega))
  rw [hn, rg0_eq] at e
  exact run_rt (n := 2) (np := 2) (B := B__law_cells) (L' := [some (.ref 0), some (.int 3)]) rfl (rt_eq e) (gc_ref (Nat.le_refl _))
theorem law_ok (ns : List Int) : ∃ st', F_law [.ref 0] [.rol (ns.map D.int)] = some (.bl true, st') := by
  let s : Sto := [.rol (ns.map D.int)]
  have h0 : s[0]? = some (.rol (ns.map .int)) := rfl
  obtain ⟨n, hn, e1⟩ := cells_ok' h0
  obtain ⟨s1, hs1⟩ : ∃ s1, s1 = s ++ [O.lst ((List.range n).map fun p => D.int (p : Nat))] := ⟨_, rfl⟩
  rw [← hs1] at e1
  have g1 : Gr s s1 := ⟨_, hs1⟩
  have hl : s1[s.length]? = some (.lst ((List.range n).map fun p => D.int (p : Nat))) := by rw [hs1]; simp
  obtain ⟨t, e2, g2, k2⟩ := lc_range (fi := fSeqI (fCall F__law_cells (fAc (fvar 0) (fAc (fC (.int 3)) fA0)))) (fg := fNm 1) (fe := fCall F__law_right (fAc (fCall F__law_pot (fAc (fvar 0) (fAc (fvar 1) fA0))) fA0)) (vs := [1]) (L := [some (.ref 0), none]) (s := s) (s0 := s1) (n := n) (g := fun p => D.int (p : Nat)) (h := fun _ => .bl true) (c := [(s.length, .lst ((List.range n).map fun p => D.int (p : Nat)))])
    (by simp -implicitDefEqProofs [fSeqI, e1, seqI, hl]) (by
      intro x hx
      simp only [List.mem_cons, List.not_mem_nil, or_false] at hx
      subst hx
      exact hl) (fun p hp => ⟨_, fun _ => rfl, fun s' g' => by
      have h0' := (g1.trans g').at h0
      obtain ⟨t, a1, a2, a3⟩ := pot_ok (place := p) (by omega) h0'
      obtain ⟨t', b1, b2⟩ := right_ok a3
      refine ⟨t', ?_, gr_of (by have := a2.len; have := b2.le; omega) fun i hi => ?_⟩
      · simp -implicitDefEqProofs [wipeL, a1, b1]
      · have := a2.len
        rw [b2.eq i (by omega) (by omega)]
        obtain ⟨q, hq⟩ := a2
        rw [hq, List.getElem?_append_left hi]⟩) (by omega)
  have k2' : t[s1.length]? = some (.lst (((List.range n).map fun p => D.int (p : Nat)).map fun _ => .bl ((fun _ => true) (D.non)))) := by
    rw [k2, List.map_map]
    rfl
  have e3 := all_eval (p := fun _ => true) (items := (List.range n).map fun p => D.int (p : Nat)) k2'
  have hall : ((List.range n).map fun p => D.int (p : Nat)).all (fun _ => true) = true := by simp
  rw [hall] at e3
  obtain ⟨t', hg, _⟩ := gc_any (r := 0) (d := .bl true) (Ds.of_gr (g1.trans g2))
  refine ⟨t', run_rt (n := 2) (np := 1) (B := B_law) (L' := [some (.ref 0), none]) (d := .bl true) (t := t) rfl (rt_eq ?_) hg⟩
  have e2' : fLc (fSeqI (fCall F__law_cells (fAc (fvar 0) (fAc (fC (.int 3)) fA0)))) (fNm 1) fYes (fCall F__law_right (fAc (fCall F__law_pot (fAc (fvar 0) (fAc (fvar 1) fA0))) fA0)) [1] [some (.ref 0), none] s = some (.ref s1.length, t) := e2
  have e9 : fCB allD (fAc (fLc (fSeqI (fCall F__law_cells (fAc (fvar 0) (fAc (fC (.int 3)) fA0)))) (fNm 1) fYes (fCall F__law_right (fAc (fCall F__law_pot (fAc (fvar 0) (fAc (fvar 1) fA0))) fA0)) [1]) fA0) [some (.ref 0), none] s = some (.bl true, t) := by
    rw [e_CB, e_Ac, e2']
    exact e3
  exact e9
end FL

set_option Elab.async false
set_option linter.all false
set_option maxRecDepth 100000
set_option autoImplicit false
open PySem PySem.W PySem.Calls PyProof.Rows
set_option maxRecDepth 100000 in
set_option maxHeartbeats 0 in
theorem PySem.Challenge.cw_everyonegetsthere_k18_whole_waits_at_gat_holds : PySem.Challenge.rw_everyonegetsthere_k18_whole_waits_at_gat.Holds := by
  w_on; o_law
  refine HandSHeadRun.head_any (r := OpenLaw.row PySem.Challenge.rw_everyonegetsthere_k18_whole_waits_at_gat) (q := view (OpenLaw.row PySem.Challenge.rw_everyonegetsthere_k18_whole_waits_at_gat).prog [70]) (H := FH.hk) (ob := FH.ob) (M := 6000) (loose := FH.lo) (d := HandSHeadRun.topDef (OpenLaw.row PySem.Challenge.rw_everyonegetsthere_k18_whole_waits_at_gat).prog 70) (kwd := []) FH.ob_eq
    (by kernel_rfl) (fun s => by kernel_rfl) FH.run (by kernel_rfl) (by kernel_rfl) (by kernel_rfl) (by rfl) (by first | assumption | decide +kernel) (by decide +kernel) ⟨rfl, rfl, rfl, rfl, rfl, by decide +kernel⟩ ?hw ?hc
  case hw => w_witness2
  case hc =>
    refine FL.walkG (l := PySem.Challenge.rw_everyonegetsthere_k18_whole_waits_at_gat) (n := 63) (k := 10) (x := "script") rfl (by decide) (by kernel_rfl) ⟨rfl, by decide, by decide⟩ ?F
    intro w mg fa h Y G hmg0
    obtain ⟨K, KX, c, nl⟩ := Y
    have hmg : mg ("law" : PySem.Str) = some (.ref fa) := by
      have e : (HandSHeadRun.topDef (OpenLaw.row PySem.Challenge.rw_everyonegetsthere_k18_whole_waits_at_gat).prog 70).name = ("law" : PySem.Str) := by kernel_rfl
      rw [← e]
      exact hmg0
    have fx : FL.Fx K mg := ⟨h, KX, G, c⟩
    have ok := FL.ok_law fx
    have ef := hmg.symm.trans ok.glo
    cases ef
    obtain ⟨fd, _, hb, hF⟩ := ok.fn
    exact ⟨K, fd, FL.F_law, KX, nl, fun s u => hb s [u] rfl, fun ns _ _ => FL.law_ok ns, fun base _ _ => hF _ w base⟩
