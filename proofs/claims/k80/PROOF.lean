import PyProof.Rows.All
import Wide.All
import OpenK.AllK
import Wide.FinOn
import HandS.ForExc
import HandS.ForMost
import HandS.Flow
import HandS.Lambda
import HandS.HeadHook4
import HandS.TryMany
import HandS.ExcInit
import HandS.Wide
import HandS.TupAny
import HandS.Deep
import HandS.IsInst
import PyProof.ListStr
import PyProof.CallStr
import HandS.Zip
import HandS.Defaults
import PyProof.EnumFor
import PyProof.EnumStmt
import PyProof.TupleIter
import HandS.More
import HandS.ExcField
import HandS.LawCells
import HandS.EndTab
import HandS.HeadWalk
import HandS.NestedK
import HandS.Head0
import HandS.Head1
import HandS.Head2
import HandS.HeadEnd
import PySem.Challenge.RW_whichstate_k80_whole_texts_of_notes
set_option Elab.async false
set_option linter.all false
set_option maxRecDepth 100000
set_option maxHeartbeats 1000000
/-! Ow1: data D, owned trees O, how they lie in the abstract heap, what is good of a heap and a list of items. -/
namespace Ow
open PySem PySem.Spec PyProof.Rows L2

/-- the table of the law's code object -/
def tabK (K : PySem.W.Frag) : Addr := (He.cT K ("law", none)).2
inductive D where
  | non | bl (b : Bool) | int (i : Int) | str (s : Str) | gl (v : V)
  | lst (xs : List D) | tup (xs : List D)
  /-- a dict; as yet: an empty one, told apart by its type alone -/
  | dct (ks vs : List D)
inductive O where
  | sh (d : D) | lst (xs : List O) | tup (xs : List O)
  /-- the table of the code objects of a def's lambdas -/
  | tab (q : Str)
  /-- objects that stay as they are -/
  | pin (B : List (Addr × HO))

mutual
def O.er : O → D
  | .sh d => d
  | .lst xs => .lst (O.ers xs)
  | .tup xs => .tup (O.ers xs)
  | .tab _ => .non
  | .pin _ => .non
def O.ers : List O → List D
  | [] => []
  | x :: xs => O.er x :: O.ers xs
end
theorem O.ers_map : ∀ xs : List O, O.ers xs = xs.map O.er
  | [] => rfl
  | x :: xs => by rw [O.ers, O.ers_map xs]; rfl
theorem O.ers_sh : ∀ xs : List D, O.ers (xs.map O.sh) = xs
  | [] => rfl
  | x :: xs => by
    show O.er (.sh x) :: O.ers (xs.map O.sh) = x :: xs
    rw [O.ers_sh xs]; rfl

def KL (K : PySem.W.Frag) (a : Addr) (xs : List V) : Prop :=
  ∃ (o : Obj) (its : Array Value) (n : Nat), K.lookup a = some o ∧ o.cls = .type "list" ∧ o.dict = none ∧ o.data = .seq its n ∧ its.size ≤ sizeLine ∧ Vals xs its.toList
def KT (K : PySem.W.Frag) (a : Addr) (xs : List V) : Prop :=
  ∃ (o : Obj) (its : Array Value) (n : Nat), K.lookup a = some o ∧ o.cls = .type "tuple" ∧ o.data = .seq its n ∧ its.size ≤ sizeLine ∧ Vals xs its.toList
def RdL (K : PySem.W.Frag) (H : Hp) (Z : List Addr) (a : Addr) (vs : List V) : Prop := a ∉ Z ∧ H a = some (.lst vs)
def RdT (K : PySem.W.Frag) (H : Hp) (Z : List Addr) (a : Addr) (vs : List V) : Prop := (a ∉ Z ∧ H a = some (.tup vs)) ∨ KT K a vs
theorem RdL.sq {K : PySem.W.Frag} {H : Hp} {Z : List Addr} {a : Addr} {vs : List V} (h : RdL K H Z a vs) : SqL K H a vs := .inl (.inl h.2)
theorem RdT.sq {K : PySem.W.Frag} {H : Hp} {Z : List Addr} {a : Addr} {vs : List V} (h : RdT K H Z a vs) : SqT K H a vs := h.imp (fun h => .inl h.2) id

mutual
def RepD (K : PySem.W.Frag) (H : Hp) (Z : List Addr) : D → V → Prop
  | .non, v => v = .non
  | .bl b, v => v = .bl b
  | .int i, v => v = .int i
  | .str s, v => v = .str s
  | .gl u, v => v = u
  | .lst xs, v => ∃ a vs, v = .ref a ∧ vs.length ≤ sizeLine ∧ RdL K H Z a vs ∧ RepDs K H Z xs vs
  | .tup xs, v => ∃ a vs, v = .ref a ∧ vs.length ≤ sizeLine ∧ RdT K H Z a vs ∧ RepDs K H Z xs vs
  | .dct ks vs, v => ∃ a, v = .ref a ∧ ks = [] ∧ vs = [] ∧ a ∉ Z ∧ H a = some (.dK [])
def RepDs (K : PySem.W.Frag) (H : Hp) (Z : List Addr) : List D → List V → Prop
  | [], vs => vs = []
  | x :: xs, vs => ∃ v r, vs = v :: r ∧ RepD K H Z x v ∧ RepDs K H Z xs r
end

mutual
/-- F: the owned addresses -/
def RepO (K : PySem.W.Frag) (H : Hp) (Z : List Addr) : O → V → List Addr → Prop
  | .sh d, v, F => F = [] ∧ RepD K H Z d v
  | .lst xs, v, F => ∃ a vs F', v = .ref a ∧ vs.length ≤ sizeLine ∧ H a = some (.lst vs) ∧ RepOs K H Z xs vs F' ∧ F = a :: F'
  | .tup xs, v, F => ∃ a vs, v = .ref a ∧ vs.length ≤ sizeLine ∧ RdT K H Z a vs ∧ RepOs K H Z xs vs F
  | .tab q, v, F => v = .non ∧ F = [tabK K] ∧ ∃ ps, H (tabK K) = some (.tbl ps) ∧ TriplesOk ps.toList ∧ ∀ pos cv, codeAmong pos ps.toList = some cv → ∃ c, cv = .ref c ∧ c ∉ Z ∧ H c = some (LamX.CodeO c q)
  | .pin B, v, F => v = .non ∧ F = [] ∧ ∀ p ∈ B, p.1 ∉ Z ∧ H p.1 = some p.2 ∧ ∀ ps, p.2 = .tbl ps → p.1 = tabK K
def RepOs (K : PySem.W.Frag) (H : Hp) (Z : List Addr) : List O → List V → List Addr → Prop
  | [], vs, F => vs = [] ∧ F = []
  | x :: xs, vs, F => ∃ v r F1 F2, vs = v :: r ∧ RepO K H Z x v F1 ∧ RepOs K H Z xs r F2 ∧ F = F1 ++ F2
end

abbrev Item := Option O × Option V
def RepI (K : PySem.W.Frag) (H : Hp) (Z : List Addr) : Item → List Addr → Prop
  | (none, _), F => F = []
  | (some o, some v), F => RepO K H Z o v F
  | (some _, none), _ => False
def RepL (K : PySem.W.Frag) (H : Hp) (Z : List Addr) : List Item → List Addr → Prop
  | [], F => F = []
  | i :: L, F => ∃ F1 F2, RepI K H Z i F1 ∧ RepL K H Z L F2 ∧ F = F1 ++ F2
/-- all items lie well, apart from one another and from E -/
def G (K : PySem.W.Frag) (E : List Addr) (H : Hp) (L : List Item) : Prop := ∃ F, RepL K H (E ++ F) L F ∧ (E ++ F).Nodup

theorem pswap {α : Type} (A B C : List α) : (A ++ (B ++ C)).Perm (B ++ (A ++ C)) := by
  rw [← List.append_assoc, ← List.append_assoc]
  exact List.Perm.append_right C List.perm_append_comm
section
variable {K : PySem.W.Frag} {H H' : Hp} {Z Z' : List Addr}

/-! ### what a description leans on -/
theorem RdL.move {a : Addr} {vs : List V} (h : RdL K H Z a vs) (hz : ∀ b x, b ∈ Z' → H b = some x → b ∈ Z) (hh : ∀ b o, b ∉ Z → H b = some o → H' b = some o) : RdL K H' Z' a vs :=
  ⟨fun z => h.1 (hz _ _ z h.2), hh _ _ h.1 h.2⟩
theorem RdT.move {a : Addr} {vs : List V} (h : RdT K H Z a vs) (hz : ∀ b x, b ∈ Z' → H b = some x → b ∈ Z) (hh : ∀ b o, b ∉ Z → H b = some o → H' b = some o) : RdT K H' Z' a vs := by
  rcases h with ⟨n, r⟩ | h
  · exact .inl ⟨fun z => n (hz _ _ z r), hh _ _ n r⟩
  · exact .inr h
mutual
theorem RepD.move (hz : ∀ b x, b ∈ Z' → H b = some x → b ∈ Z) (hh : ∀ b o, b ∉ Z → H b = some o → H' b = some o) : ∀ (d : D) (v : V), RepD K H Z d v → RepD K H' Z' d v
  | .non, v, h => h
  | .bl _, v, h => h
  | .int _, v, h => h
  | .str _, v, h => h
  | .gl _, v, h => h
  | .lst xs, v, h => by
    obtain ⟨a, vs, e, n, r, hs⟩ := h
    exact ⟨a, vs, e, n, r.move hz hh, RepDs.move hz hh xs vs hs⟩
  | .tup xs, v, h => by
    obtain ⟨a, vs, e, n, r, hs⟩ := h
    exact ⟨a, vs, e, n, r.move hz hh, RepDs.move hz hh xs vs hs⟩
  | .dct ks vs, v, h => by
    obtain ⟨a, e, h1, h2, h3, h4⟩ := h
    exact ⟨a, e, h1, h2, fun z => h3 (hz _ _ z h4), hh _ _ h3 h4⟩
theorem RepDs.move (hz : ∀ b x, b ∈ Z' → H b = some x → b ∈ Z) (hh : ∀ b o, b ∉ Z → H b = some o → H' b = some o) : ∀ (xs : List D) (vs : List V), RepDs K H Z xs vs → RepDs K H' Z' xs vs
  | [], vs, h => h
  | x :: xs, vs, h => by
    obtain ⟨v, r, e, h1, h2⟩ := h
    exact ⟨v, r, e, RepD.move hz hh x v h1, RepDs.move hz hh xs r h2⟩
end
mutual
/-- shared parts: off Z; owned parts: at F -/
theorem RepO.move (hz : ∀ b x, b ∈ Z' → H b = some x → b ∈ Z) (hh : ∀ b o, b ∉ Z → H b = some o → H' b = some o) : ∀ (o : O) (v : V) (F : List Addr), (∀ b ∈ F, ∀ o, H b = some o → H' b = some o) → RepO K H Z o v F → RepO K H' Z' o v F
  | .sh d, v, F, _, h => by
    obtain ⟨e, h⟩ := h
    exact ⟨e, RepD.move hz hh d v h⟩
  | .lst xs, v, F, hf, h => by
    obtain ⟨a, vs, F', e, n, ha, hs, eF⟩ := h
    subst eF
    exact ⟨a, vs, F', e, n, hf a (List.mem_cons_self) _ ha, RepOs.move hz hh xs vs F' (fun b hb => hf b (List.mem_cons_of_mem _ hb)) hs, rfl⟩
  | .tup xs, v, F, hf, h => by
    obtain ⟨a, vs, e, n, r, hs⟩ := h
    exact ⟨a, vs, e, n, r.move hz hh, RepOs.move hz hh xs vs F hf hs⟩
  | .tab q, v, F, hf, h => by
    obtain ⟨e, eF, ps, h1, h2, h3⟩ := h
    subst eF
    refine ⟨e, rfl, ps, hf _ List.mem_cons_self _ h1, h2, fun pos cv hc => ?_⟩
    obtain ⟨c, e1, n, e2⟩ := h3 pos cv hc
    exact ⟨c, e1, fun z => n (hz _ _ z e2), hh _ _ n e2⟩
  | .pin B, v, F, hf, h => by
    obtain ⟨e, eF, h1⟩ := h
    exact ⟨e, eF, fun p hp => ⟨fun z => (h1 p hp).1 (hz _ _ z (h1 p hp).2.1), hh _ _ (h1 p hp).1 (h1 p hp).2.1, (h1 p hp).2.2⟩⟩
theorem RepOs.move (hz : ∀ b x, b ∈ Z' → H b = some x → b ∈ Z) (hh : ∀ b o, b ∉ Z → H b = some o → H' b = some o) : ∀ (xs : List O) (vs : List V) (F : List Addr), (∀ b ∈ F, ∀ o, H b = some o → H' b = some o) → RepOs K H Z xs vs F → RepOs K H' Z' xs vs F
  | [], vs, F, _, h => h
  | x :: xs, vs, F, hf, h => by
    obtain ⟨v, r, F1, F2, e, h1, h2, eF⟩ := h
    subst eF
    exact ⟨v, r, F1, F2, e, RepO.move hz hh x v F1 (fun b hb => hf b (List.mem_append_left _ hb)) h1, RepOs.move hz hh xs r F2 (fun b hb => hf b (List.mem_append_right _ hb)) h2, rfl⟩
end
theorem RepI.move (hz : ∀ b x, b ∈ Z' → H b = some x → b ∈ Z) (hh : ∀ b o, b ∉ Z → H b = some o → H' b = some o) {i : Item} {F : List Addr} (hf : ∀ b ∈ F, ∀ o, H b = some o → H' b = some o) (h : RepI K H Z i F) : RepI K H' Z' i F := by
  rcases i with ⟨_ | o, _ | v⟩
  · exact h
  · exact h
  · exact h
  · exact RepO.move hz hh o v F hf h
theorem RepL.move (hz : ∀ b x, b ∈ Z' → H b = some x → b ∈ Z) (hh : ∀ b o, b ∉ Z → H b = some o → H' b = some o) : ∀ (L : List Item) (F : List Addr), (∀ b ∈ F, ∀ o, H b = some o → H' b = some o) → RepL K H Z L F → RepL K H' Z' L F
  | [], F, _, h => h
  | i :: L, F, hf, h => by
    obtain ⟨F1, F2, h1, h2, eF⟩ := h
    subst eF
    exact ⟨F1, F2, RepI.move hz hh (fun b hb => hf b (List.mem_append_left _ hb)) h1, RepL.move hz hh L F2 (fun b hb => hf b (List.mem_append_right _ hb)) h2, rfl⟩
/-- Z as a set -/
theorem RepL.set (hz : ∀ b, b ∈ Z' → b ∈ Z) {L : List Item} {F : List Addr} (h : RepL K H Z L F) : RepL K H Z' L F := h.move (fun b _ hb _ => hz b hb) (fun _ _ _ e => e) L F (fun _ _ _ e => e)
theorem RepO.set (hz : ∀ b, b ∈ Z' → b ∈ Z) {o : O} {v : V} {F : List Addr} (h : RepO K H Z o v F) : RepO K H Z' o v F := h.move (fun b _ hb _ => hz b hb) (fun _ _ _ e => e) o v F (fun _ _ _ e => e)

/-! ### lists of items -/
theorem RepL.append : ∀ {L M : List Item} {F : List Addr}, RepL K H Z (L ++ M) F ↔ ∃ F1 F2, RepL K H Z L F1 ∧ RepL K H Z M F2 ∧ F = F1 ++ F2
  | [], M, F => ⟨fun h => ⟨[], F, rfl, h, rfl⟩, fun ⟨F1, F2, e, h, eF⟩ => by cases (show F1 = [] from e); rw [eF]; exact h⟩
  | i :: L, M, F => by
    constructor
    · rintro ⟨F1, F2, h1, h2, rfl⟩
      obtain ⟨F3, F4, h3, h4, rfl⟩ := RepL.append.mp h2
      exact ⟨F1 ++ F3, F4, ⟨F1, F3, h1, h3, rfl⟩, h4, by simp⟩
    · rintro ⟨F1, F2, ⟨F3, F4, h3, h4, rfl⟩, h2, rfl⟩
      exact ⟨F3, F4 ++ F2, h3, RepL.append.mpr ⟨F4, F2, h4, h2, rfl⟩, by simp⟩
theorem RepL.perm {L M : List Item} (p : L.Perm M) : ∀ {F : List Addr}, RepL K H Z L F → ∃ F', RepL K H Z M F' ∧ F.Perm F' := by
  induction p with
  | nil => exact fun {F} h => ⟨F, h, .refl _⟩
  | cons x p ih =>
    rintro F ⟨F1, F2, h1, h2, rfl⟩
    obtain ⟨F', h', q⟩ := ih h2
    exact ⟨F1 ++ F', ⟨F1, F', h1, h', rfl⟩, List.Perm.append_left F1 q⟩
  | swap x y L =>
    rintro F ⟨F1, F2, h1, ⟨F3, F4, h3, h4, rfl⟩, rfl⟩
    refine ⟨F3 ++ (F1 ++ F4), ⟨F3, F1 ++ F4, h3, ⟨F1, F4, h1, h4, rfl⟩, rfl⟩, ?_⟩
    rw [← List.append_assoc, ← List.append_assoc]
    exact List.Perm.append_right F4 List.perm_append_comm
  | trans p q ih1 ih2 =>
    intro F h
    obtain ⟨F', h', q1⟩ := ih1 h
    obtain ⟨F'', h'', q2⟩ := ih2 h'
    exact ⟨F'', h'', q1.trans q2⟩
/-- a list of owned trees, with their values -/
def its (os : List O) (vs : List V) : List Item := (os.map some).zip (vs.map some)
theorem RepOs.items : ∀ {os : List O} {vs : List V} {F : List Addr}, RepOs K H Z os vs F ↔ (os.length = vs.length ∧ RepL K H Z (its os vs) F)
  | [], vs, F => by
    constructor
    · rintro ⟨rfl, rfl⟩; exact ⟨rfl, rfl⟩
    · rintro ⟨e, h⟩
      have : vs = [] := List.length_eq_zero_iff.mp e.symm
      subst this
      exact ⟨rfl, h⟩
  | x :: xs, vs, F => by
    constructor
    · rintro ⟨v, r, F1, F2, rfl, h1, h2, rfl⟩
      obtain ⟨e, h2⟩ := RepOs.items.mp h2
      exact ⟨by simp [e], F1, F2, h1, h2, rfl⟩
    · rintro ⟨e, h⟩
      cases vs with
      | nil => simp at e
      | cons v r =>
        obtain ⟨F1, F2, h1, h2, rfl⟩ := h
        exact ⟨v, r, F1, F2, rfl, h1, RepOs.items.mpr ⟨by simpa using e, h2⟩, rfl⟩

variable {E : List Addr} {L M : List Item} {i : Item} {o : O} {d : D} {v : V}
theorem RepL.ok {F : List Addr} : ∀ {L : List Item}, RepL K H Z L F → ∀ i ∈ L, ∃ F1, RepI K H Z i F1 ∧ ∀ b ∈ F1, b ∈ F
  | [], _, i, hi => nomatch hi
  | j :: L, h, i, hi => by
    obtain ⟨F1, F2, h1, h2, rfl⟩ := h
    rcases List.mem_cons.mp hi with rfl | hi
    · exact ⟨F1, h1, fun b hb => List.mem_append_left _ hb⟩
    · obtain ⟨F3, h3, s⟩ := RepL.ok h2 i hi
      exact ⟨F3, h3, fun b hb => List.mem_append_right _ (s b hb)⟩
theorem G.perm (g : G K E H L) (p : L.Perm M) : G K E H M := by
  obtain ⟨F, h, n⟩ := g
  obtain ⟨F', h', q⟩ := h.perm p
  have q' : (E ++ F).Perm (E ++ F') := List.Perm.append_left E q
  exact ⟨F', h'.set fun b hb => q'.mem_iff.mpr hb, q'.nodup_iff.mp n⟩
theorem G.tail (g : G K E H (i :: L)) : G K E H L := by
  obtain ⟨_, ⟨F1, F2, h1, h2, rfl⟩, n⟩ := g
  have s : (E ++ F2).Sublist (E ++ (F1 ++ F2)) := List.Sublist.append_left (List.sublist_append_right F1 F2) E
  exact ⟨F2, h2.set fun b hb => s.subset hb, n.sublist s⟩
theorem G.right : ∀ {L : List Item}, G K E H (L ++ M) → G K E H M
  | [], g => g
  | _ :: L, g => G.right (L := L) g.tail
theorem G.left (g : G K E H (L ++ M)) : G K E H L := G.right (g.perm List.perm_append_comm)
/-- off all that is owned -/
theorem G.off (g : G K E H ((some (.sh d), some v) :: L)) : ∃ F, RepD K H (E ++ F) d v ∧ RepL K H (E ++ F) L F ∧ (E ++ F).Nodup := by
  obtain ⟨_, ⟨F1, F2, ⟨e, h1⟩, h2, rfl⟩, n⟩ := g
  subst e
  exact ⟨F2, h1, h2, n⟩
theorem G.of {F : List Addr} (h1 : RepD K H (E ++ F) d v) (h2 : RepL K H (E ++ F) L F) (n : (E ++ F).Nodup) : G K E H ((some (.sh d), some v) :: L) :=
  ⟨F, ⟨[], F, ⟨rfl, h1⟩, h2, rfl⟩, n⟩
theorem G.dup (g : G K E H ((some (.sh d), some v) :: L)) : G K E H ((some (.sh d), some v) :: (some (.sh d), some v) :: L) := by
  obtain ⟨F, h1, h2, n⟩ := g.off
  exact ⟨F, ⟨[], F, ⟨rfl, h1⟩, ⟨[], F, ⟨rfl, h1⟩, h2, rfl⟩, rfl⟩, n⟩
/-- what leans on no heap -/
theorem G.flat (g : G K E H L) (h : ∀ Z, RepD K H Z d v) : G K E H ((some (.sh d), some v) :: L) := by
  obtain ⟨F, h2, n⟩ := g
  exact .of (h _) h2 n
theorem G.noval {ov : Option V} (g : G K E H L) : G K E H ((none, ov) :: L) := by
  obtain ⟨F, h2, n⟩ := g
  exact ⟨F, ⟨[], F, rfl, h2, rfl⟩, n⟩
mutual
/-- an owned tree, given up -/
theorem RepO.er : ∀ (o : O) (v : V) (F : List Addr), RepO K H Z o v F → (∀ b ∈ F, b ∉ Z') → (∀ b, b ∈ Z' → b ∈ Z) → RepD K H Z' o.er v
  | .sh d, v, F, h, _, hz => RepD.move (fun b _ hb _ => hz b hb) (fun _ _ _ e => e) d v h.2
  | .lst xs, v, F, h, hf, hz => by
    obtain ⟨a, vs, F', e, n, ha, hs, eF⟩ := h
    subst eF
    exact ⟨a, vs, e, n, ⟨hf a List.mem_cons_self, ha⟩, RepOs.er xs vs F' hs (fun b hb => hf b (List.mem_cons_of_mem _ hb)) hz⟩
  | .tup xs, v, F, h, hf, hz => by
    obtain ⟨a, vs, e, n, r, hs⟩ := h
    exact ⟨a, vs, e, n, r.move (fun b _ hb _ => hz b hb) (fun _ _ _ e => e), RepOs.er xs vs F hs hf hz⟩
  | .tab q, v, F, h, _, _ => h.1
  | .pin B, v, F, h, _, _ => h.1
theorem RepOs.er : ∀ (xs : List O) (vs : List V) (F : List Addr), RepOs K H Z xs vs F → (∀ b ∈ F, b ∉ Z') → (∀ b, b ∈ Z' → b ∈ Z) → RepDs K H Z' (O.ers xs) vs
  | [], vs, F, h, _, _ => h.1
  | x :: xs, vs, F, h, hf, hz => by
    obtain ⟨v, r, F1, F2, e, h1, h2, eF⟩ := h
    subst eF
    exact ⟨v, r, e, RepO.er x v F1 h1 (fun b hb => hf b (List.mem_append_left _ hb)) hz, RepOs.er xs r F2 h2 (fun b hb => hf b (List.mem_append_right _ hb)) hz⟩
end
theorem G.er (g : G K E H ((some o, some v) :: L)) : G K E H ((some (.sh o.er), some v) :: L) := by
  obtain ⟨_, ⟨F1, F2, h1, h2, rfl⟩, n⟩ := g
  have s : (E ++ F2).Sublist (E ++ (F1 ++ F2)) := List.Sublist.append_left (List.sublist_append_right F1 F2) E
  have hz : ∀ b, b ∈ E ++ F2 → b ∈ E ++ (F1 ++ F2) := fun b hb => s.subset hb
  refine .of (RepO.er o v F1 h1 (fun b hb hc => ?_) hz) (h2.set hz) (n.sublist s)
  rw [List.nodup_append] at n
  obtain ⟨_, n2, n3⟩ := n
  rw [List.nodup_append] at n2
  rcases List.mem_append.mp hc with hc | hc
  · exact n3 b hc b (List.mem_append_left _ hb) rfl
  · exact n2.2.2 b hb b hc rfl
/-- the heap has grown -/
theorem G.grow (g : G K E H L) (k : ∀ b o, H b = some o → H' b = some o) : G K E H' L := by
  obtain ⟨F, h, n⟩ := g
  exact ⟨F, h.move (fun _ _ z _ => z) (fun b o _ e => k b o e) _ _ fun b _ o e => k b o e, n⟩
theorem upd_grow {p : Addr} {x : HO} (n : H p = none) : ∀ b o, H b = some o → upd H p x b = some o := fun b o e => by rw [upd_ne (ne_of_none e n)]; exact e
mutual
theorem RepO.there : ∀ (o : O) (v : V) (F : List Addr), RepO K H Z o v F → ∀ b ∈ F, ∃ x, H b = some x
  | .sh d, v, F, h, b, hb => by rw [h.1] at hb; cases hb
  | .lst xs, v, F, h, b, hb => by
    obtain ⟨a, vs, F', e, n, ha, hs, eF⟩ := h
    subst eF
    rcases List.mem_cons.mp hb with rfl | hb
    · exact ⟨_, ha⟩
    · exact RepOs.there xs vs F' hs b hb
  | .tup xs, v, F, h, b, hb => by
    obtain ⟨a, vs, e, n, r, hs⟩ := h
    exact RepOs.there xs vs F hs b hb
  | .tab q, v, F, h, b, hb => by
    obtain ⟨_, eF, ps, h1, _⟩ := h
    rw [eF, List.mem_singleton] at hb
    rw [hb]
    exact ⟨_, h1⟩
  | .pin B, v, F, h, b, hb => by rw [h.2.1] at hb; cases hb
theorem RepOs.there : ∀ (xs : List O) (vs : List V) (F : List Addr), RepOs K H Z xs vs F → ∀ b ∈ F, ∃ x, H b = some x
  | [], vs, F, h, b, hb => by rw [h.2] at hb; cases hb
  | x :: xs, vs, F, h, b, hb => by
    obtain ⟨v, r, F1, F2, e, h1, h2, eF⟩ := h
    subst eF
    rcases List.mem_append.mp hb with hb | hb
    · exact RepO.there x v F1 h1 b hb
    · exact RepOs.there xs r F2 h2 b hb
end
theorem RepL.there : ∀ (L : List Item) (F : List Addr), RepL K H Z L F → ∀ b ∈ F, ∃ x, H b = some x
  | [], F, h, b, hb => by rw [show F = [] from h] at hb; cases hb
  | i :: L, F, h, b, hb => by
    obtain ⟨F1, F2, h1, h2, eF⟩ := h
    subst eF
    rcases List.mem_append.mp hb with hb | hb
    · rcases i with ⟨_ | o, _ | v⟩
      · rw [show F1 = [] from h1] at hb; cases hb
      · rw [show F1 = [] from h1] at hb; cases hb
      · exact h1.elim
      · exact RepO.there o v F1 h1 b hb
    · exact RepL.there L F2 h2 b hb
/-- an owned list is opened: its address is set apart -/
theorem G.openL {os : List O} (g : G K E H ((some (.lst os), some v) :: L)) : ∃ a vs, v = .ref a ∧ vs.length ≤ sizeLine ∧ H a = some (.lst vs) ∧ os.length = vs.length ∧ G K (a :: E) H (its os vs ++ L) := by
  obtain ⟨_, ⟨F1, F2, ⟨a, vs, F', e, hn, ha, hs, rfl⟩, h2, rfl⟩, n⟩ := g
  obtain ⟨el, hs⟩ := RepOs.items.mp hs
  have p : (E ++ (a :: F' ++ F2)).Perm (a :: E ++ (F' ++ F2)) := by
    rw [List.cons_append, List.cons_append]
    exact List.perm_middle
  refine ⟨a, vs, e, hn, ha, el, F' ++ F2, RepL.append.mpr ⟨F', F2, hs.set fun b hb => p.mem_iff.mpr hb, h2.set fun b hb => p.mem_iff.mpr hb, rfl⟩, p.nodup_iff.mp n⟩
/-- .. and closed -/
theorem G.closeL {os : List O} {a : Addr} {vs : List V} (g : G K (a :: E) H (its os vs ++ L)) (el : os.length = vs.length) (hn : vs.length ≤ sizeLine) (ha : H a = some (.lst vs)) : G K E H ((some (.lst os), some (.ref a)) :: L) := by
  obtain ⟨F, h, n⟩ := g
  obtain ⟨F', F2, h1, h2, rfl⟩ := RepL.append.mp h
  have p : (a :: E ++ (F' ++ F2)).Perm (E ++ (a :: F' ++ F2)) := by
    rw [List.cons_append, List.cons_append]
    exact List.perm_middle.symm
  refine ⟨a :: F' ++ F2, ⟨a :: F', F2, ⟨a, vs, F', rfl, hn, ha, RepOs.items.mpr ⟨el, h1.set fun b hb => p.mem_iff.mpr hb⟩, rfl⟩, h2.set fun b hb => p.mem_iff.mpr hb, rfl⟩, p.nodup_iff.mp n⟩
/-- a set-apart object changes -/
theorem G.write {a : Addr} {x : HO} (g : G K (a :: E) H L) : G K (a :: E) (upd H a x) L := by
  obtain ⟨F, h, n⟩ := g
  refine ⟨F, h.move (fun _ _ z _ => z) (fun b o hb e => ?_) _ _ (fun b hb o e => ?_), n⟩
  · rw [upd_ne (fun z => hb (by rw [z]; exact List.mem_cons_self))]; exact e
  · have : b ≠ a := fun z => by
      subst z
      rw [List.cons_append, List.nodup_cons] at n
      exact n.1 (List.mem_append_right _ hb)
    rw [upd_ne this]; exact e
/-- a new object is set apart -/
theorem G.fresh {p : Addr} {x : HO} (g : G K E H L) (np : H p = none) (nE : p ∉ E) : G K (p :: E) (upd H p x) L := by
  obtain ⟨F, h, n⟩ := g
  refine ⟨F, ?_, ?_⟩
  · -- p is off all that is read: it was not there
    have h' : RepL K H (p :: E ++ F) L F := by
      exact h.move (fun b x hb e => by
        rcases List.mem_cons.mp hb with z | z
        · rw [z, np] at e; cases e
        · exact z) (fun _ _ _ e => e) _ _ fun _ _ _ e => e
    exact h'.move (fun _ _ z _ => z) (fun b o _ e => upd_grow np b o e) _ _ fun b _ o e => upd_grow np b o e
  · rw [List.cons_append, List.nodup_cons]
    have nF' : p ∉ F := fun z => by
      obtain ⟨y, e⟩ := RepL.there L F h p z
      rw [np] at e; cases e
    exact ⟨fun z => (List.mem_append.mp z).elim nE nF', n⟩

theorem its_cons {o : O} {os : List O} {v : V} {vs : List V} : its (o :: os) (v :: vs) = (some o, some v) :: its os vs := rfl
theorem its_append : ∀ {os : List O} {vs : List V} {os' : List O} {vs' : List V}, os.length = vs.length → its (os ++ os') (vs ++ vs') = its os vs ++ its os' vs'
  | [], [], _, _, _ => rfl
  | _ :: os, _ :: vs, os', vs', e => by
    rw [List.cons_append, List.cons_append, its_cons, its_cons, its_append (by simpa using e)]; rfl
/-- a new list of items -/
theorem G.newL {p : Addr} {os : List O} {vs : List V} (g : G K [] H (its os vs ++ L)) (el : os.length = vs.length) (hn : vs.length ≤ sizeLine) (np : H p = none) : G K [] (upd H p (.lst vs)) ((some (.lst os), some (.ref p)) :: L) :=
  (g.fresh (x := .lst vs) np (by simp)).closeL el hn upd_same
/-- a new tuple of items -/
theorem G.newT {p : Addr} {os : List O} {vs : List V} (g : G K [] H (its os vs ++ L)) (el : os.length = vs.length) (hn : vs.length ≤ sizeLine) (np : H p = none) : G K [] (upd H p (.tup vs)) ((some (.tup os), some (.ref p)) :: L) := by
  have nF : ∀ {F : List Addr}, RepL K H ([] ++ F) (its os vs ++ L) F → p ∉ F := fun {F} h z => by
    obtain ⟨y, e⟩ := RepL.there _ F h p z
    rw [np] at e; cases e
  obtain ⟨F, h, n⟩ := g
  have nf := nF h
  have h' := h.move (Z' := [] ++ F) (H' := upd H p (.tup vs)) (fun _ _ z _ => z) (fun b o _ e => upd_grow np b o e) _ _ fun b _ o e => upd_grow np b o e
  obtain ⟨F', F2, h1, h2, rfl⟩ := RepL.append.mp h'
  exact ⟨F' ++ F2, ⟨F', F2, ⟨p, vs, rfl, hn, .inl ⟨nf, upd_same⟩, RepOs.items.mpr ⟨el, h1⟩⟩, h2, rfl⟩, n⟩
/-- a tuple is opened -/
theorem G.openT {os : List O} (g : G K E H ((some (.tup os), some v) :: L)) : ∃ a vs, v = .ref a ∧ SqT K H a vs ∧ os.length = vs.length ∧ G K E H (its os vs ++ L) := by
  obtain ⟨_, ⟨F1, F2, ⟨a, vs, e, hn, r, hs⟩, h2, rfl⟩, n⟩ := g
  obtain ⟨el, hs⟩ := RepOs.items.mp hs
  exact ⟨a, vs, e, r.sq, el, F1 ++ F2, RepL.append.mpr ⟨F1, F2, hs, h2, rfl⟩, n⟩
theorem RepDs.len : ∀ {xs : List D} {vs : List V}, RepDs K H Z xs vs → xs.length = vs.length
  | [], vs, h => by rw [show vs = [] from h]; rfl
  | x :: xs, vs, h => by
    obtain ⟨v, r, e, _, h2⟩ := h
    rw [e, List.length_cons, List.length_cons, RepDs.len h2]
theorem RepDs.get : ∀ {xs : List D} {vs : List V} {i : Nat} {x : D}, RepDs K H Z xs vs → xs[i]? = some x → ∃ v, vs[i]? = some v ∧ RepD K H Z x v
  | [], _, _, _, _, e => by simp at e
  | y :: xs, vs, i, x, h, e => by
    obtain ⟨v, r, ev, h1, h2⟩ := h
    subst ev
    cases i with
    | zero => simp at e; subst e; exact ⟨v, rfl, h1⟩
    | succ i => exact RepDs.get (i := i) h2 (by simpa using e)
/-- shared lists and tuples -/
theorem G.lst {xs : List D} (g : G K E H ((some (.sh (.lst xs)), some v) :: L)) : ∃ a vs, v = .ref a ∧ H a = some (.lst vs) ∧ vs.length ≤ sizeLine ∧ xs.length = vs.length ∧ ∃ F, RepDs K H (E ++ F) xs vs ∧ RepL K H (E ++ F) L F ∧ (E ++ F).Nodup := by
  obtain ⟨F, ⟨a, vs, e, n, r, hs⟩, h2, nd⟩ := g.off
  exact ⟨a, vs, e, r.2, n, hs.len, F, hs, h2, nd⟩
theorem G.tupl {xs : List D} (g : G K E H ((some (.sh (.tup xs)), some v) :: L)) : ∃ a vs, v = .ref a ∧ SqT K H a vs ∧ vs.length ≤ sizeLine ∧ xs.length = vs.length ∧ ∃ F, RepDs K H (E ++ F) xs vs ∧ RepL K H (E ++ F) L F ∧ (E ++ F).Nodup := by
  obtain ⟨F, ⟨a, vs, e, n, r, hs⟩, h2, nd⟩ := g.off
  exact ⟨a, vs, e, r.sq, n, hs.len, F, hs, h2, nd⟩
/-- shared values in a row, as items -/
theorem G.many {F : List Addr} : ∀ {xs : List D} {vs : List V}, RepDs K H (E ++ F) xs vs → RepL K H (E ++ F) L F → (E ++ F).Nodup → G K E H (its (xs.map O.sh) vs ++ L)
  | [], vs, h, h2, n => by rw [show vs = [] from h]; exact ⟨F, h2, n⟩
  | x :: xs, vs, h, h2, n => by
    obtain ⟨v, r, e, h1, h3⟩ := h
    subst e
    obtain ⟨F', h4, h5⟩ := (show ∃ F', F' = F ∧ RepL K H (E ++ F) (its (xs.map O.sh) r ++ L) F' from by
      have aux : ∀ {xs : List D} {vs : List V}, RepDs K H (E ++ F) xs vs → RepL K H (E ++ F) (its (xs.map O.sh) vs ++ L) F := by
        intro xs
        induction xs with
        | nil => intro vs h; rw [show vs = [] from h]; exact h2
        | cons x xs ih =>
          intro vs h
          obtain ⟨v, r, e, h1, h3⟩ := h
          subst e
          exact ⟨[], F, ⟨rfl, h1⟩, ih h3, rfl⟩
      exact ⟨F, rfl, aux h3⟩)
    subst h4
    exact ⟨F', ⟨[], F', ⟨rfl, h1⟩, h5, rfl⟩, n⟩
theorem G.rep (g : G K E H ((some (.sh d), some v) :: L)) : RepD K H [] d v := by
  obtain ⟨F, h, _⟩ := g.off
  exact RepD.move (fun _ _ z _ => absurd z (by simp)) (fun _ _ _ e => e) d v h
theorem its_len_left {os : List O} {vs : List V} (e : os.length = vs.length) : (its os vs).length = os.length := by
  unfold its
  rw [List.length_zip, List.length_map, List.length_map, ← e, Nat.min_self]
/-- shared lists: their items are good -/
theorem G.lstI {xs : List D} (g : G K E H ((some (.sh (.lst xs)), some v) :: L)) : ∃ a vs, v = .ref a ∧ H a = some (.lst vs) ∧ vs.length ≤ sizeLine ∧ xs.length = vs.length ∧ G K E H (its (xs.map O.sh) vs ++ ((some (.sh (.lst xs)), some v) :: L)) := by
  obtain ⟨a, vs, e, h, n, el, F, hs, hl, nd⟩ := g.lst
  obtain ⟨F', h1, h2, nd'⟩ := g.off
  exact ⟨a, vs, e, h, n, el, G.many (L := (some (.sh (.lst xs)), some v) :: L) (F := F') (by
    obtain ⟨a', vs', e', n', r', hs'⟩ := h1
    rw [e] at e'
    cases e'
    rw [r'.2] at h
    cases h
    exact hs') ⟨[], F', ⟨rfl, h1⟩, h2, rfl⟩ nd'⟩
end
end Ow

set_option Elab.async false
set_option linter.all false
set_option maxRecDepth 100000
set_option maxHeartbeats 1000000
/-! Ow2: the monad of the plain functions, what an expression's plain function says of it, the first expressions. -/
namespace Ow
open PySem PySem.Spec PyProof.Rows L2

abbrev Sl := List (Option O)
inductive R (α : Type) where
  | ok (a : α) (e : Sl)
  | exc (c : Str) (fs : List (Str × D)) (e : Sl)
  | no
abbrev M (α : Type) := Sl → R α
def M.bind {α β : Type} (m : M α) (f : α → M β) : M β := fun e => match m e with
  | .ok a e' => f a e'
  | .exc c fs e' => .exc c fs e'
  | .no => .no
def M.ret {α : Type} (a : α) : M α := fun e => .ok a e
def M.no {α : Type} : M α := fun _ => .no
def Len {α : Type} (m : M α) : Prop := (∀ e a e', m e = .ok a e' → e'.length = e.length) ∧ ∀ e c fs e', m e = .exc c fs e' → e'.length = e.length
theorem Len.ret {α : Type} {a : α} : Len (M.ret a) := ⟨fun e a' e' h => by cases h; rfl, fun e c fs e' h => by cases h⟩
theorem Len.bind {α β : Type} {m : M α} {f : α → M β} (h : Len m) (hf : ∀ a, Len (f a)) : Len (m.bind f) := by
  constructor
  · intro e b e' h1
    unfold M.bind at h1
    cases hm : m e with
    | ok a e1 => rw [hm] at h1; exact ((hf a).1 _ _ _ h1).trans (h.1 _ _ _ hm)
    | exc c fs e1 => rw [hm] at h1; cases h1
    | no => rw [hm] at h1; cases h1
  · intro e c fs e' h1
    unfold M.bind at h1
    cases hm : m e with
    | ok a e1 => rw [hm] at h1; exact ((hf a).2 _ _ _ _ h1).trans (h.1 _ _ _ hm)
    | exc c2 fs2 e1 => rw [hm] at h1; cases h1; exact h.2 _ _ _ _ hm
    | no => rw [hm] at h1; cases h1

/-- an exception that carries these fields, as it lies behind -/
def XOk (K : PySem.W.Frag) (mg : Str → Option Value) (c : Str) (fs : List (Str × D)) (L : List Item) (W : Value → Option Addr → Hp → Prop) : Prop :=
  ∀ (C d : Addr) (vs : List V) (H' : Hp), mg c = some (.ref C) → vs.length = fs.length → H' d = some (.xd ((fs.map (·.1)).zip vs)) → G K [] H' (its (fs.map fun p => O.sh p.2) vs ++ L) → W (.ref C) (some d) H'

/-- what is wanted of an end -/
def Post {α : Type} (K : PySem.W.Frag) (mg : Str → Option Value) (W : WX) (σ : L2.St) (L : List Item) (r : R α) (k : α → Sl → Prop) : Prop :=
  match r with
  | .ok a e' => k a e'
  | .exc c fs e' => XOk K mg c fs (e'.zip σ ++ L) fun C d H' => W C d σ H'
  | .no => False
def tM (K : PySem.W.Frag) (mg : Str → Option Value) (W : WX) (m : M O) : TE := fun σ H Q => ∃ (e : Sl) (L : List Item), e.length = σ.length ∧ G K [] H (e.zip σ ++ L) ∧
  Post K mg W σ L (m e) fun o e' => ∀ v H', G K [] H' ((some o, some v) :: (e'.zip σ ++ L)) → Q v H'
def tB (K : PySem.W.Frag) (mg : Str → Option Value) (W : WX) (m : M Bool) : TT := fun σ H Q => ∃ (e : Sl) (L : List Item), e.length = σ.length ∧ G K [] H (e.zip σ ++ L) ∧
  Post K mg W σ L (m e) fun b e' => ∀ H', G K [] H' (e'.zip σ ++ L) → Q b H'
def tMs (K : PySem.W.Frag) (mg : Str → Option Value) (W : WX) (m : M (List O)) : TA := fun σ H Q => ∃ (e : Sl) (L : List Item), e.length = σ.length ∧ G K [] H (e.zip σ ++ L) ∧
  Post K mg W σ L (m e) fun os e' => ∀ vs H', os.length = vs.length → G K [] H' (its os vs ++ (e'.zip σ ++ L)) → Q vs H'
theorem XOk.more {K : PySem.W.Frag} {mg : Str → Option Value} {c : Str} {fs : List (Str × D)} {A L M : List Item} {W : Value → Option Addr → Hp → Prop} (h : XOk K mg c fs (A ++ L) W) : XOk K mg c fs (A ++ (M ++ L)) W := by
  intro C d vs H' hc hl hd g
  refine h C d vs H' hc hl hd ?_
  have p : (its (fs.map fun p => O.sh p.2) vs ++ (A ++ (M ++ L))).Perm (M ++ (its (fs.map fun p => O.sh p.2) vs ++ (A ++ L))) := by
    rw [← List.append_assoc, ← List.append_assoc]
    rw [show its (fs.map fun p => O.sh p.2) vs ++ (A ++ L) = (its (fs.map fun p => O.sh p.2) vs ++ A) ++ L by rw [List.append_assoc]]
    rw [← List.append_assoc]
    exact List.Perm.append_right L List.perm_append_comm
  exact (g.perm p).right
section
variable {α β : Type} {K : PySem.W.Frag} {mg : Str → Option Value} {W : WX} {σ : L2.St} {L : List Item} {m : M α} {f : α → M β} {e : Sl} {k : β → Sl → Prop}
theorem Post.bind (h : Post K mg W σ L (m.bind f e) k) : Post K mg W σ L (m e) fun a e' => m e = .ok a e' ∧ Post K mg W σ L (f a e') k := by
  unfold M.bind at h
  unfold Post at h ⊢
  cases q : m e with
  | ok a e' => rw [q] at h; exact ⟨rfl, h⟩
  | exc c fs e' => rw [q] at h; exact h
  | no => rw [q] at h; exact h
theorem Post.mono {r : R β} {k' : β → Sl → Prop} (h : Post K mg W σ L r k) (i : ∀ a e', r = .ok a e' → k a e' → k' a e') : Post K mg W σ L r k' := by
  cases r with
  | ok a e' => exact i a e' rfl h
  | exc c fs e' => exact h
  | no => exact h
/-- further items beside -/
theorem Post.more {r : R β} {M : List Item} {k' : β → Sl → Prop} (h : Post K mg W σ L r k) (i : ∀ a e', r = .ok a e' → k a e' → k' a e') : Post K mg W σ (M ++ L) r k' := by
  cases r with
  | ok a e' => exact i a e' rfl h
  | exc c fs e' =>
    have h' : XOk K mg c fs (e'.zip σ ++ L) fun C d H' => W C d σ H' := h
    exact XOk.more h'
  | no => exact h
theorem Post.more1 {r : R β} {j : Item} {k' : β → Sl → Prop} (h : Post K mg W σ L r k) (i : ∀ a e', r = .ok a e' → k a e' → k' a e') : Post K mg W σ (j :: L) r k' := h.more (M := [j]) i
theorem Post.of_no {r : R β} (h : Post K mg W σ L r k) (e : r = .no) : False := by subst e; exact h
end
theorem Len.no {α : Type} : Len (M.no : M α) := And.intro (fun e a e' h => by cases h) (fun e c fs e' h => by cases h)
structure SE (X : Cx) (W : WX) (e : Expr) (m : M O) : Prop where
  pe : PE X e (tM X.K X.mg W m)
  len : Len m
structure ST (X : Cx) (W : WX) (e : Expr) (m : M Bool) : Prop where
  pt : PT X e (tB X.K X.mg W m)
  len : Len m
structure SA (X : Cx) (W : WX) (es : List Expr) (m : M (List O)) : Prop where
  pa : PA X es (tMs X.K X.mg W m)
  len : Len m

/-! consequence -/
theorem PE.imp {X : Cx} {e : Expr} {t t' : TE} (h : PE X e t) (i : ∀ σ H Q, t' σ H Q → t σ H Q) : PE X e t' := ⟨fun pins s σ H Q I q => h.run pins s σ H Q I (i σ H Q q)⟩
theorem PT.imp {X : Cx} {e : Expr} {t t' : TT} (h : PT X e t) (i : ∀ σ H Q, t' σ H Q → t σ H Q) : PT X e t' := ⟨fun pins s σ H Q I q => h.run pins s σ H Q I (i σ H Q q)⟩
theorem PA.imp {X : Cx} {e : List Expr} {t t' : TA} (h : PA X e t) (i : ∀ σ H Q, t' σ H Q → t σ H Q) : PA X e t' := ⟨fun pos pins s σ H Q I q => h.run pos pins s σ H Q I (i σ H Q q)⟩
theorem PS.imp {X : Cx} {e : Stmt} {t t' : TS} (h : PS X e t) (i : ∀ D σ H, t' D σ H → t D σ H) : PS X e t' := ⟨fun pins s σ H D I q => h.run pins s σ H D I (i D σ H q)⟩
theorem PSs.imp {X : Cx} {e : List Stmt} {t t' : TS} (h : PSs X e t) (i : ∀ D σ H, t' D σ H → t D σ H) : PSs X e t' := ⟨fun pins s σ H D I q => h.run pins s σ H D I (i D σ H q)⟩

/-! ### slots -/
theorem zip_at : ∀ {e : Sl} {σ : L2.St} {i : Nat} {x : Option O} {y : Option V}, e[i]? = some x → σ[i]? = some y → ∃ A B : List Item, ∀ x' y', (e.set i x').zip (σ.set i y') = A ++ (x', y') :: B
  | [], _, _, _, _, h, _ => by simp at h
  | _ :: _, [], _, _, _, _, h => by simp at h
  | a :: e, b :: σ, 0, x, y, _, _ => ⟨[], e.zip σ, fun x' y' => rfl⟩
  | a :: e, b :: σ, i + 1, x, y, h1, h2 => by
    obtain ⟨A, B, q⟩ := zip_at (e := e) (σ := σ) (i := i) (by simpa using h1) (by simpa using h2)
    refine ⟨(a, b) :: A, B, fun x' y' => ?_⟩
    have := q x' y'
    simp only [List.set_cons_succ, List.zip_cons_cons, List.cons_append, this]
theorem set_id {α : Type} : ∀ {l : List α} {i : Nat} {x : α}, l[i]? = some x → l.set i x = l
  | [], _, _, h => by simp at h
  | a :: l, 0, x, h => by simp at h; simp [h]
  | a :: l, i + 1, x, h => by rw [List.set_cons_succ, set_id (by simpa using h)]
section
variable {K : PySem.W.Frag} {E : List Addr} {H H' : Hp} {L : List Item} {e : Sl} {σ : L2.St} {i : Nat} {x : Option O} {y : Option V} {o : O} {d : D} {v : V}
theorem slot_val (h : e[i]? = some (some o)) (hl : e.length = σ.length) (g : G K E H (e.zip σ ++ L)) : ∃ v, σ[i]? = some (some v) := by
  have hi : i < e.length := (List.getElem?_eq_some_iff.mp h).1
  have hi' : i < σ.length := by omega
  have m : (some o, σ[i]) ∈ e.zip σ ++ L := List.mem_append_left _ (by
    rw [List.mem_iff_getElem?]
    refine ⟨i, ?_⟩
    rw [List.getElem?_zip_eq_some]
    exact ⟨h, List.getElem?_eq_getElem hi'⟩)
  obtain ⟨F, hr, _⟩ := g
  obtain ⟨F1, r, _⟩ := hr.ok _ m
  cases q : σ[i] with
  | none => rw [q] at r; exact (show False from r).elim
  | some v => exact ⟨v, by rw [List.getElem?_eq_getElem hi', q]⟩
theorem G.take (h : e[i]? = some x) (h2 : σ[i]? = some y) (g : G K E H (e.zip σ ++ L)) : G K E H ((x, y) :: ((e.set i none).zip σ ++ L)) := by
  obtain ⟨A, B, q⟩ := zip_at h h2
  have q1 := q x y
  rw [set_id h, set_id h2] at q1
  have q2 := q none y
  rw [set_id h2] at q2
  rw [q1] at g
  rw [q2]
  have p : ((A ++ (x, y) :: B) ++ L).Perm ((x, y) :: ((A ++ B) ++ L)) := by
    rw [List.append_assoc, List.cons_append, List.append_assoc]
    exact List.perm_middle
  have g2 := g.perm p
  have p2 : ((none, y) :: ((x, y) :: ((A ++ B) ++ L))).Perm ((x, y) :: ((A ++ (none, y) :: B) ++ L)) := by
    refine (List.Perm.swap _ _ _).trans (List.Perm.cons _ ?_)
    rw [List.append_assoc, List.append_assoc, List.cons_append]
    exact List.perm_middle.symm
  exact g2.noval.perm p2
theorem G.put {x' : Option O} {y' : Option V} (h : e[i]? = some x) (h2 : σ[i]? = some y) (g : G K E H ((x', y') :: ((e.set i none).zip σ ++ L))) : G K E H ((e.set i x').zip (σ.set i y') ++ L) := by
  obtain ⟨A, B, q⟩ := zip_at h h2
  have q2 := q none y
  rw [set_id h2] at q2
  rw [q2] at g
  rw [q x' y']
  have p : ((x', y') :: ((A ++ (none, y) :: B) ++ L)).Perm ((none, y) :: ((A ++ (x', y') :: B) ++ L)) := by
    rw [List.append_assoc, List.append_assoc, List.cons_append, List.cons_append]
    refine (List.Perm.cons _ List.perm_middle).trans ?_
    refine (List.Perm.swap _ _ _).trans (List.Perm.cons _ ?_)
    exact List.perm_middle.symm
  exact (g.perm p).tail
theorem G.put' {x' : Option O} (h : e[i]? = some x) (h2 : σ[i]? = some y) (g : G K E H ((x', y) :: ((e.set i none).zip σ ++ L))) : G K E H ((e.set i x').zip σ ++ L) := by
  have := G.put h h2 g
  rwa [set_id h2] at this
end

/-! ### names, constants -/
/-- what a slot holds -/
def slotM {α : Type} (i : Nat) (k : O → M α) : M α := fun e => match e[i]? with
  | some (some o) => k o e
  | _ => .no
theorem Len.slot {α : Type} {i : Nat} {k : O → M α} (h : ∀ o, Len (k o)) : Len (slotM i k) := by
  constructor
  · intro e a e' q
    unfold slotM at q
    split at q
    · exact (h _).1 _ _ _ q
    · cases q
  · intro e c fs e' q
    unfold slotM at q
    split at q
    · exact (h _).2 _ _ _ _ q
    · cases q
theorem Post.slot {α : Type} {K : PySem.W.Frag} {mg : Str → Option Value} {W : WX} {σ : L2.St} {L : List Item} {i : Nat} {k : O → M α} {e : Sl} {q : α → Sl → Prop} (h : Post K mg W σ L (slotM i k e) q) :
    ∃ o, e[i]? = some (some o) ∧ Post K mg W σ L (k o e) q := by
  unfold slotM at h
  cases ho : e[i]? with
  | none => rw [ho] at h; exact h.elim
  | some oo =>
    rw [ho] at h
    cases oo with
    | none => exact h.elim
    | some o => exact ⟨o, rfl, h⟩
/-- a name: what it holds is shared from now on -/
def mName (i : Nat) : M O := slotM i fun o e => .ok (.sh o.er) (e.set i (some (.sh o.er)))
/-- a name that is not read again: what it holds is handed over -/
def mMove (i : Nat) : M O := slotM i fun o e => .ok o (e.set i none)
theorem Len.set {α : Type} {i : Nat} {a : α} {x : Option O} : Len (fun e => R.ok a (e.set i x)) := ⟨fun e b e' h => by cases h; simp, fun _ _ _ _ h => by cases h⟩
theorem Len.name {i : Nat} : Len (mName i) := Len.slot fun _ => Len.set
theorem Len.move {i : Nat} : Len (mMove i) := Len.slot fun _ => Len.set
section
variable {X : Cx} {W : WX} {a b : Expr} {ma mb : M O} {pos : Pos} {x : Str}
theorem se_name (i : Nat) (hN : X.N[i]? = some x := by rfl) (hv : Vis X.env.scope x := by first | exact Or.inl rfl | exact Or.inr (Or.inl rfl) | exact Or.inr (Or.inr rfl)) (hd : (x == ("__debug__" : Str)) = false := by decide) (hcd : (x == ("__classdict__" : Str)) = false := by decide) : SE X W (.Name x pos) (mName i) := by
  refine ⟨PE.imp (pe_var hN hv hd hcd) fun σ H Q h => ?_, Len.name⟩
  obtain ⟨e, L, hl, g, h⟩ := h
  obtain ⟨o, ho, h⟩ := Post.slot h
  obtain ⟨v, hv⟩ := slot_val ho hl g
  refine ⟨v, hv, h v H ?_⟩
  have p : ((some (O.sh o.er), some v) :: (some (O.sh o.er), some v) :: ((e.set i none).zip σ ++ L)).Perm ((some (O.sh o.er), some v) :: ((e.set i none).zip σ ++ ((some (O.sh o.er), some v) :: L))) :=
    List.Perm.cons _ List.perm_middle.symm
  exact (G.put' ho hv (((g.take ho hv).er.dup).perm p)).perm List.perm_middle
theorem se_move (i : Nat) (hN : X.N[i]? = some x := by rfl) (hv : Vis X.env.scope x := by first | exact Or.inl rfl | exact Or.inr (Or.inl rfl) | exact Or.inr (Or.inr rfl)) (hd : (x == ("__debug__" : Str)) = false := by decide) (hcd : (x == ("__classdict__" : Str)) = false := by decide) : SE X W (.Name x pos) (mMove i) := by
  refine ⟨PE.imp (pe_var hN hv hd hcd) fun σ H Q h => ?_, Len.move⟩
  obtain ⟨e, L, hl, g, h⟩ := h
  obtain ⟨o, ho, h⟩ := Post.slot h
  obtain ⟨v, hv⟩ := slot_val ho hl g
  exact ⟨v, hv, h v H (g.take ho hv)⟩
/-- what leans on nothing -/
theorem se_flat {e : Expr} {d : D} {v : V} (p : PE X e (tC v)) (r : ∀ H Z, RepD X.K H Z d v) : SE X W e (M.ret (.sh d)) := by
  refine ⟨PE.imp p fun σ H Q h => ?_, Len.ret⟩
  obtain ⟨e, L, hl, g, h⟩ := h
  exact h v H (g.flat (r H))
theorem se_int {i j} : SE X W (.Constant (.int i) j pos) (M.ret (.sh (.int i))) := se_flat pe_int fun _ _ => rfl
theorem se_bl {b j} : SE X W (.Constant (.bool b) j pos) (M.ret (.sh (.bl b))) := se_flat pe_bl fun _ _ => rfl
theorem se_non {j} : SE X W (.Constant .none j pos) (M.ret (.sh .non)) := se_flat pe_non fun _ _ => rfl
theorem se_str {s j} : SE X W (.Constant (.str s) j pos) (M.ret (.sh (.str s))) := se_flat pe_str fun _ _ => rfl
/-- a module's constant -/
theorem se_glob {u : Value} {d : D} {v : V} (hg : Gl X x) (hm : X.mg x = some u) (r : RelV v u) (q : ∀ H Z, RepD X.K H Z d v) (hd : (x == ("__debug__" : Str)) = false := by decide) : SE X W (.Name x pos) (M.ret (.sh d)) := se_flat (pe_glob hg hm r hd) q

/-! ### two operands, one after the other -/
theorem G.rot {K : PySem.W.Frag} {E : List Addr} {H : Hp} {i j : Item} {L : List Item} (g : G K E H (i :: j :: L)) : G K E H (j :: i :: L) := g.perm (List.Perm.swap _ _ _)
/-- an operator, by what it makes of shared data: f tells it, by the rule r -/
def ofOpt (x : Option O) : M O := match x with
  | some o => M.ret o
  | none => M.no
theorem Len.opt {x : Option O} : Len (ofOpt x) := by cases x <;> first | exact Len.ret | exact Len.no
def mBin (f : D → D → Option O) (ma mb : M O) : M O := ma.bind fun x => mb.bind fun y => ofOpt (f x.er y.er)
theorem Len.bin {f : D → D → Option O} (ha : Len ma) (hb : Len mb) : Len (mBin f ma mb) := ha.bind fun x => hb.bind fun y => Len.opt
/-- r does what f says -/
def FOk (K : PySem.W.Frag) (r : R2) (f : D → D → Option O) : Prop := ∀ (x y : D) (o : O) (u v : V) (H : Hp) (L : List Item) (Q : VK), f x y = some o → G K [] H ((some (.sh x), some u) :: (some (.sh y), some v) :: L) → (∀ w H', G K [] H' ((some o, some w) :: L) → Q w H') → r u v H Q
theorem tOp_of {K : PySem.W.Frag} {mg : Str → Option Value} {r : R2} {f : D → D → Option O} (hf : FOk K r f) {σ : L2.St} {H : Hp} {Q : VK} (h : tM K mg W (mBin f ma mb) σ H Q) (la : Len ma) : tOp r (tM K mg W ma) (tM K mg W mb) σ H Q := by
  obtain ⟨e, L, hl, g, h⟩ := h
  refine ⟨e, L, hl, g, h.bind.mono fun x e1 q1 ⟨_, h1⟩ u H1 g1 => ?_⟩
  refine ⟨e1, (some x, some u) :: L, (la.1 _ _ _ q1).trans hl, g1.perm List.perm_middle.symm, h1.bind.more1 fun y e2 q2 ⟨_, h2⟩ v H2 g2 => ?_⟩
  have p2 : ((some y, some v) :: (e2.zip σ ++ ((some x, some u) :: L))).Perm ((some x, some u) :: (some y, some v) :: (e2.zip σ ++ L)) := (List.Perm.cons _ List.perm_middle).trans (List.Perm.swap _ _ _)
  have g3 := (g2.perm p2).er.rot.er.rot
  cases hq : f x.er y.er with
  | some o =>
    rw [hq] at h2
    exact hf _ _ o u v H2 _ Q hq g3 h2
  | none =>
    rw [hq] at h2
    exact h2.elim
theorem se_bin {op : Operator} {r : R2} {f : D → D → Option O} (ho : OpR X (binaryOp op) r) (hf : FOk X.K r f) (ha : SE X W a ma) (hb : SE X W b mb) : SE X W (.BinOp a op b pos) (mBin f ma mb) :=
  ⟨PE.imp (pe_op ho ha.pe hb.pe) fun _ _ _ h => tOp_of hf h ha.len, ha.len.bin hb.len⟩
theorem se_cmp {op : CmpOp} {r : R2} {f : D → D → Option O} (ho : OpR X (compareOp op) r) (hf : FOk X.K r f) (hm : behindInMarks op b = false) (ha : SE X W a ma) (hb : SE X W b mb) : SE X W (.Compare a [op] [b] pos) (mBin f ma mb) :=
  ⟨PE.imp (pe_cmpR ho ha.pe hb.pe hm) fun _ _ _ h => tOp_of hf h ha.len, ha.len.bin hb.len⟩
end
end Ow

set_option Elab.async false
set_option linter.all false
set_option maxRecDepth 100000
set_option maxHeartbeats 1000000
/-! Ow3: operators on data. -/
namespace Ow
open PySem PySem.Spec PyProof.Rows L2

section
variable {X : Cx} {W : WX} {a b : Expr} {ma mb : M O} {pos : Pos} {x : Str} {K : PySem.W.Frag}
theorem FOk.or {r r' : R2} {f f' : D → D → Option O} (h : FOk K r f) (h' : FOk K r' f') : FOk K (fun x y H Q => r x y H Q ∨ r' x y H Q) (fun x y => match f x y with | some o => some o | none => f' x y) := by
  intro x y o u v H L Q e g q
  cases q1 : f x y with
  | some o' =>
    simp only [q1] at e
    exact .inl (h x y o u v H L Q (by rw [q1]; exact e) g q)
  | none =>
    simp only [q1] at e
    exact .inr (h' x y o u v H L Q e g q)
/-- two ints, one flat answer -/
def iiF (c : Int → Int → Bool) (g : Int → Int → D) : D → D → Option O
  | .int i, .int j => if c i j then some (.sh (g i j)) else none
  | _, _ => none
theorem iiF_ok {C : Int → Int → Prop} {c : Int → Int → Bool} {g : Int → Int → D} {gv : Int → Int → V} (hc : ∀ i j, c i j = true → C i j) (hr : ∀ i j H Z, RepD K H Z (g i j) (gv i j)) : FOk K (rI C gv) (iiF c g) := by
  intro x y o u v H L Q e gd q
  unfold iiF at e
  split at e
  · rename_i i j
    split at e
    · rename_i hcc
      cases e
      have e1 : u = .int i := gd.rep
      have e2 : v = .int j := gd.tail.rep
      subst e1 e2
      exact ⟨i, j, rfl, rfl, hc _ _ hcc, q _ H (gd.tail.tail.flat (hr i j H))⟩
    · cases e
  · cases e
def ii0 (g : Int → Int → D) : D → D → Option O := iiF (fun _ _ => true) g
theorem ii0_ok {g : Int → Int → D} {gv : Int → Int → V} (hr : ∀ i j H Z, RepD K H Z (g i j) (gv i j)) : FOk K (rI0 gv) (ii0 g) := by
  intro x y o u v H L Q e gd q
  obtain ⟨i, j, h1, h2, _, h4⟩ := iiF_ok (C := fun _ _ => True) (c := fun _ _ => true) (g := g) (gv := gv) (fun _ _ _ => trivial) hr x y o u v H L Q e gd q
  exact ⟨i, j, h1, h2, h4⟩
def addI : D → D → Option O := ii0 fun i j => .int (i + j)
def subI : D → D → Option O := ii0 fun i j => .int (i - j)
def mulI : D → D → Option O := iiF (fun i j => (decide (-(2 ^ 64) < i) && decide (i < 2 ^ 64)) || (decide (-(2 ^ 64) < j) && decide (j < 2 ^ 64))) fun i j => .int (i * j)
def modI : D → D → Option O := iiF (fun _ j => decide (0 < j)) fun i j => .int (i % j)
def fdivI : D → D → Option O := iiF (fun _ j => decide (0 < j) && decide (j < 1073741824)) fun i j => .int (i / j)
def powI : D → D → Option O := iiF (fun i j => decide (0 ≤ j) && decide (j ≤ 1000000) && decide (i.natAbs < 2 ^ 64)) fun i j => .int (i ^ j.toNat)
theorem se_sub (ha : SE X W a ma) (hb : SE X W b mb) : SE X W (.BinOp a .Sub b pos) (mBin subI ma mb) := se_bin op_sub (ii0_ok fun _ _ _ _ => rfl) ha hb
theorem se_mod (ha : SE X W a ma) (hb : SE X W b mb) : SE X W (.BinOp a .Mod b pos) (mBin modI ma mb) := se_bin op_mod (iiF_ok (fun i j h => by simpa using h) fun _ _ _ _ => rfl) ha hb
theorem se_fdiv (ha : SE X W a ma) (hb : SE X W b mb) : SE X W (.BinOp a .FloorDiv b pos) (mBin fdivI ma mb) := se_bin op_fdiv (iiF_ok (fun i j h => by
  have h := h
  rw [Bool.and_eq_true] at h
  exact ⟨of_decide_eq_true h.1, of_decide_eq_true h.2⟩) fun _ _ _ _ => rfl) ha hb
theorem se_pow (ha : SE X W a ma) (hb : SE X W b mb) : SE X W (.BinOp a .Pow b pos) (mBin powI ma mb) := se_bin op_pow (iiF_ok (fun i j h => by
  have h := h
  rw [Bool.and_eq_true, Bool.and_eq_true] at h
  exact ⟨of_decide_eq_true h.1.1, of_decide_eq_true h.1.2, of_decide_eq_true h.2⟩) fun _ _ _ _ => rfl) ha hb
/-- texts, lists, tuples put together -/
def catS : D → D → Option O
  | .str s, .str t => if s.length + t.length ≤ sizeLine then some (.sh (.str (s ++ t))) else none
  | _, _ => none
def catL : D → D → Option O
  | .lst xs, .lst ys => if xs.length + ys.length ≤ sizeLine then some (.lst ((xs ++ ys).map .sh)) else none
  | _, _ => none
def catT : D → D → Option O
  | .tup xs, .tup ys => if xs.length + ys.length ≤ sizeLine ∧ xs ≠ [] ∧ ys ≠ [] then some (.sh (.tup (xs ++ ys))) else none
  | _, _ => none
theorem catS_ok : FOk K (fun x y H Q => ∃ i j, x = .str i ∧ y = .str j ∧ i.length + j.length ≤ sizeLine ∧ Q (.str (i ++ j)) H) catS := by
  intro x y o u v H L Q e gd q
  unfold catS at e
  split at e
  · rename_i s t
    split at e
    · rename_i hc
      cases e
      have e1 : u = .str s := gd.rep
      have e2 : v = .str t := gd.tail.rep
      subst e1 e2
      exact ⟨s, t, rfl, rfl, hc, q _ H (gd.tail.tail.flat fun Z => rfl)⟩
    · cases e
  · cases e
theorem G.two {E : List Addr} {H : Hp} {L : List Item} {xs ys : List D} {u v : V} (g : G K E H ((some (.sh (.lst xs)), some u) :: (some (.sh (.lst ys)), some v) :: L)) :
    ∃ a b us vs, u = .ref a ∧ v = .ref b ∧ H a = some (.lst us) ∧ H b = some (.lst vs) ∧ xs.length = us.length ∧ ys.length = vs.length ∧ G K E H (its ((xs ++ ys).map .sh) (us ++ vs) ++ L) := by
  obtain ⟨a, us, e1, h1, n1, l1, g1⟩ := g.lstI
  have p : (its (xs.map O.sh) us ++ ((some (.sh (.lst xs)), some u) :: (some (.sh (.lst ys)), some v) :: L)).Perm ((some (.sh (.lst ys)), some v) :: ((some (.sh (.lst xs)), some u) :: (its (xs.map O.sh) us ++ L))) := by
    refine List.perm_middle.trans ?_
    refine (List.Perm.cons _ List.perm_middle).trans (List.Perm.swap _ _ _)
  obtain ⟨b, vs, e2, h2, n2, l2, g2⟩ := (g1.perm p).lstI
  refine ⟨a, b, us, vs, e1, e2, h1, h2, l1, l2, ?_⟩
  rw [List.map_append, its_append (by simpa using l1)]
  have p2 : (its (ys.map O.sh) vs ++ ((some (.sh (.lst ys)), some v) :: (some (.sh (.lst xs)), some u) :: (its (xs.map O.sh) us ++ L))).Perm ((some (.sh (.lst ys)), some v) :: (some (.sh (.lst xs)), some u) :: (its (xs.map O.sh) us ++ its (ys.map O.sh) vs ++ L)) := by
    refine List.perm_middle.trans (List.Perm.cons _ (List.perm_middle.trans (List.Perm.cons _ ?_)))
    rw [← List.append_assoc]
    exact List.Perm.append_right L List.perm_append_comm
  exact (g2.perm p2).tail.tail
theorem catL_ok : FOk K rCat catL := by
  intro x y o u v H L Q e gd q
  unfold catL at e
  split at e
  · rename_i xs ys
    split at e
    · rename_i hc
      cases e
      obtain ⟨a, b, us, vs, rfl, rfl, h1, h2, l1, l2, g⟩ := gd.two
      refine ⟨a, b, us, vs, rfl, rfl, h1, h2, by omega, fun p np => q _ _ (g.newL (by simp [l1, l2]) (by rw [List.length_append]; omega) np)⟩
    · cases e
  · cases e
/-- shared values in a new tuple -/
theorem G.newTs {H : Hp} {L : List Item} {p : Addr} {xs : List D} {vs : List V} (g : G K [] H (its (xs.map .sh) vs ++ L)) (el : xs.length = vs.length) (hn : vs.length ≤ sizeLine) (np : H p = none) : G K [] (upd H p (.tup vs)) ((some (.sh (.tup xs)), some (.ref p)) :: L) := by
  have := (g.newT (by simpa using el) hn np).er
  rwa [show (O.tup (xs.map .sh)).er = .tup xs by show D.tup (O.ers (xs.map O.sh)) = _; rw [O.ers_sh]] at this
theorem G.tupI {E : List Addr} {H : Hp} {L : List Item} {xs : List D} {v : V} (g : G K E H ((some (.sh (.tup xs)), some v) :: L)) : ∃ a vs, v = .ref a ∧ SqT K H a vs ∧ vs.length ≤ sizeLine ∧ xs.length = vs.length ∧ G K E H (its (xs.map O.sh) vs ++ ((some (.sh (.tup xs)), some v) :: L)) := by
  obtain ⟨F', h1, h2, nd'⟩ := g.off
  obtain ⟨a, vs, e, n, r, hs⟩ := id h1
  exact ⟨a, vs, e, r.sq, n, hs.len, G.many (L := (some (.sh (.tup xs)), some v) :: L) (F := F') hs ⟨[], F', ⟨rfl, h1⟩, h2, rfl⟩ nd'⟩
def addF : D → D → Option O := fun x y => match addI x y with
  | some o => some o
  | none => match catS x y with
    | some o => some o
    | none => catL x y
theorem se_add (ha : SE X W a ma) (hb : SE X W b mb) : SE X W (.BinOp a .Add b pos) (mBin addF ma mb) :=
  se_bin (op_add.or (op_add_str.or op_cat)) ((ii0_ok (g := fun i j => .int (i + j)) (gv := fun i j => .int (i + j)) fun _ _ _ _ => rfl).or (catS_ok.or catL_ok)) ha hb
/-- a list some times over -/
def repL : D → D → Option O
  | .lst xs, .int k => if -(2 ^ 63) ≤ k ∧ k < 2 ^ 63 ∧ xs.length * k.toNat ≤ sizeLine then some (.lst ((List.replicate k.toNat xs).flatten.map .sh)) else none
  | _, _ => none
theorem G.times {E : List Addr} {H : Hp} {L : List Item} {xs : List D} {us : List V} (el : xs.length = us.length) : ∀ n : Nat, G K E H (its (xs.map .sh) us ++ L) → G K E H (its ((List.replicate n xs).flatten.map .sh) (List.replicate n us).flatten ++ (its (xs.map .sh) us ++ L))
  | 0, g => g
  | n + 1, g => by
    have g1 := G.times el n g
    rw [List.replicate_succ, List.replicate_succ, List.flatten_cons, List.flatten_cons, List.map_append, its_append (by simpa using el)]
    -- duplicate the row
    have dupAll : ∀ {xs : List D} {us : List V} {L : List Item}, G K E H (its (xs.map .sh) us ++ L) → G K E H (its (xs.map .sh) us ++ (its (xs.map .sh) us ++ L)) := by
      intro xs
      induction xs with
      | nil => intro us L g; exact g
      | cons x xs ih =>
        intro us L g
        cases us with
        | nil => exact g
        | cons u us =>
          have g2 := G.dup (show G K E H ((some (.sh x), some u) :: (its (xs.map .sh) us ++ L)) from g)
          have p : ((some (O.sh x), some u) :: (some (O.sh x), some u) :: (its (xs.map .sh) us ++ L)).Perm (its (xs.map .sh) us ++ ((some (O.sh x), some u) :: (some (O.sh x), some u) :: L)) :=
            (List.Perm.cons _ List.perm_middle.symm).trans List.perm_middle.symm
          have g3 := ih (g2.perm p)
          refine g3.perm ?_
          show (its (xs.map .sh) us ++ (its (xs.map .sh) us ++ ((some (O.sh x), some u) :: (some (O.sh x), some u) :: L))).Perm ((some (O.sh x), some u) :: (its (xs.map .sh) us ++ ((some (O.sh x), some u) :: (its (xs.map .sh) us ++ L))))
          have q1 : (its (xs.map .sh) us ++ ((some (O.sh x), some u) :: (some (O.sh x), some u) :: L)).Perm ((some (O.sh x), some u) :: (some (O.sh x), some u) :: (its (xs.map .sh) us ++ L)) := List.perm_middle.trans (List.Perm.cons _ List.perm_middle)
          refine (List.Perm.append_left _ q1).trans ?_
          exact List.perm_middle
    have p : (its ((List.replicate n xs).flatten.map .sh) (List.replicate n us).flatten ++ (its (xs.map .sh) us ++ L)).Perm (its (xs.map .sh) us ++ (its ((List.replicate n xs).flatten.map .sh) (List.replicate n us).flatten ++ L)) := by
      rw [← List.append_assoc, ← List.append_assoc]
      exact List.Perm.append_right L List.perm_append_comm
    refine (dupAll (g1.perm p)).perm ?_
    rw [List.append_assoc]
    refine List.Perm.append_left _ ?_
    rw [← List.append_assoc, ← List.append_assoc]
    exact List.Perm.append_right L List.perm_append_comm
theorem repL_ok : FOk K rRep repL := by
  intro x y o u v H L Q e gd q
  unfold repL at e
  split at e
  · rename_i xs k
    split at e
    · rename_i hc
      cases e
      obtain ⟨a, us, e1, h1, n1, l1, g1⟩ := gd.lstI
      have e2 : v = .int k := gd.tail.rep
      subst e1 e2
      refine ⟨a, k, us, rfl, rfl, h1, hc.1, hc.2.1, by rw [← l1]; exact hc.2.2, fun p np => q _ _ ?_⟩
      have g2 := G.times l1 k.toNat g1
      have g3 : G K [] H (its ((List.replicate k.toNat xs).flatten.map .sh) (List.replicate k.toNat us).flatten ++ L) := by
        have p : (its ((List.replicate k.toNat xs).flatten.map O.sh) (List.replicate k.toNat us).flatten ++ (its (xs.map O.sh) us ++ ((some (.sh (.lst xs)), some (.ref a)) :: (some (.sh (.int k)), some (.int k)) :: L))).Perm
            ((its (xs.map O.sh) us ++ [(some (.sh (.lst xs)), some (.ref a)), (some (.sh (.int k)), some (.int k))]) ++ (its ((List.replicate k.toNat xs).flatten.map O.sh) (List.replicate k.toNat us).flatten ++ L)) := by
          rw [show its (xs.map O.sh) us ++ ((some (O.sh (.lst xs)), some (V.ref a)) :: (some (O.sh (.int k)), some (V.int k)) :: L) = (its (xs.map O.sh) us ++ [(some (O.sh (.lst xs)), some (V.ref a)), (some (O.sh (.int k)), some (V.int k))]) ++ L by simp]
          exact pswap _ _ _
        exact (g2.perm p).right
      have lf : (List.replicate k.toNat us).flatten.length = us.length * k.toNat := by simp [List.length_flatten, Nat.mul_comm]
      exact g3.newL (by simp [List.length_flatten, l1]) (by rw [lf, ← l1]; exact hc.2.2) np
    · cases e
  · cases e
def mulF : D → D → Option O := fun x y => match mulI x y with
  | some o => some o
  | none => repL x y
theorem se_mul (ha : SE X W a ma) (hb : SE X W b mb) : SE X W (.BinOp a .Mult b pos) (mBin mulF ma mb) :=
  se_bin (op_mul.or op_rep) ((iiF_ok (g := fun i j => .int (i * j)) (gv := fun i j => .int (i * j)) (fun i j h => by
    have h := h
    rw [Bool.or_eq_true, Bool.and_eq_true, Bool.and_eq_true] at h
    exact h.imp (fun h => ⟨of_decide_eq_true h.1, of_decide_eq_true h.2⟩) fun h => ⟨of_decide_eq_true h.1, of_decide_eq_true h.2⟩) fun _ _ _ _ => rfl).or repL_ok) ha hb

/-! ### comparisons -/
mutual
def D.py : D → PyData
  | .non => .none
  | .bl b => .bool b
  | .int i => .int i
  | .str s => .str s
  | .gl _ => .dict []
  | .lst xs => .list (D.pys xs)
  | .tup xs => .tuple (D.pys xs)
  | .dct _ _ => .dict []
def D.pys : List D → List PyData
  | [] => []
  | x :: xs => D.py x :: D.pys xs
end
theorem D.pys_map : ∀ xs : List D, D.pys xs = xs.map D.py
  | [] => rfl
  | x :: xs => by rw [D.pys, D.pys_map xs]; rfl
mutual
/-- no value of the module stands in it -/
def D.pure : D → Bool
  | .gl _ => false
  | .dct _ _ => false
  | .lst xs => D.pures xs
  | .tup xs => D.pures xs
  | _ => true
def D.pures : List D → Bool
  | [] => true
  | x :: xs => D.pure x && D.pures xs
end
mutual
theorem RepD.dp {H : Hp} {Z : List Addr} : ∀ (d : D) (v : V), d.pure = true → RepD K H Z d v → Dp K H v d.py
  | .non, v, _, h => by rw [show v = .non from h]; exact .non
  | .bl b, v, _, h => by rw [show v = .bl b from h]; exact .bl b
  | .int i, v, _, h => by rw [show v = .int i from h]; exact .int i
  | .str s, v, _, h => by rw [show v = .str s from h]; exact .str s
  | .gl _, v, p, h => by cases p
  | .dct _ _, v, p, h => by cases p
  | .lst xs, v, p, h => by
    obtain ⟨a, vs, e, n, r, hs⟩ := h
    subst e
    exact .lst r.sq (RepDs.dp xs vs p hs)
  | .tup xs, v, p, h => by
    obtain ⟨a, vs, e, n, r, hs⟩ := h
    subst e
    exact .tup r.sq (RepDs.dp xs vs p hs)
theorem RepDs.dp {H : Hp} {Z : List Addr} : ∀ (xs : List D) (vs : List V), D.pures xs = true → RepDs K H Z xs vs → DpAll K H vs (D.pys xs)
  | [], vs, _, h => by rw [show vs = [] from h]; exact .nil
  | x :: xs, vs, p, h => by
    obtain ⟨v, r, e, h1, h2⟩ := h
    subst e
    have p' : (x.pure && D.pures xs) = true := p
    rw [Bool.and_eq_true] at p'
    exact .cons (RepD.dp x v p'.1 h1) (RepDs.dp xs r p'.2 h2)
end
/-- what == can be asked of -/
def D.eqb (d : D) : Bool := d.pure && SeqAt.shaped d.py
def eqF : D → D → Option O := fun x y => if x.eqb && y.eqb then some (.sh (.bl (PyData.eqv x.py y.py))) else none
def neF : D → D → Option O := fun x y => if x.eqb && y.eqb then some (.sh (.bl (!PyData.eqv x.py y.py))) else none
theorem eqF_ok : FOk K (rEqD K) eqF := by
  intro x y o u v H L Q e gd q
  unfold eqF at e
  split at e
  · rename_i hc
    cases e
    rw [Bool.and_eq_true] at hc
    unfold D.eqb at hc
    rw [Bool.and_eq_true, Bool.and_eq_true] at hc
    exact ⟨_, _, RepD.dp x u hc.1.1 gd.rep, RepD.dp y v hc.2.1 gd.tail.rep, hc.1.2, hc.2.2, q _ H (gd.tail.tail.flat fun Z => rfl)⟩
  · cases e
theorem neF_ok : FOk K (rNeD K) neF := by
  intro x y o u v H L Q e gd q
  unfold neF at e
  split at e
  · rename_i hc
    cases e
    rw [Bool.and_eq_true] at hc
    unfold D.eqb at hc
    rw [Bool.and_eq_true, Bool.and_eq_true] at hc
    exact ⟨_, _, RepD.dp x u hc.1.1 gd.rep, RepD.dp y v hc.2.1 gd.tail.rep, hc.1.2, hc.2.2, q _ H (gd.tail.tail.flat fun Z => rfl)⟩
  · cases e
theorem se_eq (hu : X.A.units + 64 < cLine) (ha : SE X W a ma) (hb : SE X W b mb) : SE X W (.Compare a [.Eq] [b] pos) (mBin eqF ma mb) := se_cmp (op_eqD hu) eqF_ok (nomark b) ha hb
theorem se_ne (hu : X.A.units + 64 < cLine) (ha : SE X W a ma) (hb : SE X W b mb) : SE X W (.Compare a [.NotEq] [b] pos) (mBin neF ma mb) := se_cmp (op_neD hu) neF_ok (nomark b) ha hb
def ltI : D → D → Option O := ii0 fun i j => .bl (decide (i < j))
def leI : D → D → Option O := ii0 fun i j => .bl (decide (i ≤ j))
def gtI : D → D → Option O := ii0 fun i j => .bl (decide (j < i))
def geI : D → D → Option O := ii0 fun i j => .bl (decide (j ≤ i))
theorem se_lt (ha : SE X W a ma) (hb : SE X W b mb) : SE X W (.Compare a [.Lt] [b] pos) (mBin ltI ma mb) := se_cmp op_lt (ii0_ok fun _ _ _ _ => rfl) (nomark b) ha hb
theorem se_le (ha : SE X W a ma) (hb : SE X W b mb) : SE X W (.Compare a [.LtE] [b] pos) (mBin leI ma mb) := se_cmp op_le (ii0_ok fun _ _ _ _ => rfl) (nomark b) ha hb
theorem se_gt (ha : SE X W a ma) (hb : SE X W b mb) : SE X W (.Compare a [.Gt] [b] pos) (mBin gtI ma mb) := se_cmp op_gt (ii0_ok fun _ _ _ _ => rfl) (nomark b) ha hb
theorem se_ge (ha : SE X W a ma) (hb : SE X W b mb) : SE X W (.Compare a [.GtE] [b] pos) (mBin geI ma mb) := se_cmp op_ge (ii0_ok fun _ _ _ _ => rfl) (nomark b) ha hb
/-- is None -/
def D.isN : D → Option Bool
  | .non => some true
  | .gl _ => none
  | _ => some false
theorem RepD.isN {H : Hp} {Z : List Addr} {d : D} {v : V} {k : Bool} (h : RepD K H Z d v) (e : d.isN = some k) : decide (v = .non) = k := by
  cases d with
  | non => cases e; rw [show v = .non from h]; rfl
  | bl b => cases e; rw [show v = .bl b from h]; rfl
  | int b => cases e; rw [show v = .int b from h]; rfl
  | str b => cases e; rw [show v = .str b from h]; rfl
  | gl b => cases e
  | lst xs => cases e; obtain ⟨a, vs, e, _⟩ := h; rw [e]; rfl
  | tup xs => cases e; obtain ⟨a, vs, e, _⟩ := h; rw [e]; rfl
  | dct xs ys => cases e; obtain ⟨a, e, _⟩ := h; rw [e]; rfl
def mUn (f : D → Option O) (ma : M O) : M O := ma.bind fun x => ofOpt (f x.er)
theorem Len.un {f : D → Option O} (ha : Len ma) : Len (mUn f ma) := ha.bind fun _ => Len.opt
/-- a one-place reading -/
def UOk (K : PySem.W.Frag) (r : V → Hp → VK → Prop) (f : D → Option O) : Prop := ∀ (x : D) (o : O) (u : V) (H : Hp) (L : List Item) (Q : VK), f x = some o → G K [] H ((some (.sh x), some u) :: L) → (∀ w H', G K [] H' ((some o, some w) :: L) → Q w H') → r u H Q
theorem tUn_of {mg : Str → Option Value} {r : V → Hp → VK → Prop} {f : D → Option O} (hf : UOk K r f) {σ : L2.St} {H : Hp} {Q : VK} (h : tM K mg W (mUn f ma) σ H Q) : tM K mg W ma σ H (fun v H1 => r v H1 Q) := by
  obtain ⟨e, L, hl, g, h⟩ := h
  refine ⟨e, L, hl, g, h.bind.mono fun x e1 q1 ⟨_, h1⟩ u H1 g1 => ?_⟩
  cases hq : f x.er with
  | some o => rw [hq] at h1; exact hf _ o u H1 _ Q hq g1.er h1
  | none => rw [hq] at h1; exact h1.elim
def isNF : D → Option O := fun x => x.isN.map fun k => .sh (.bl k)
def notNF : D → Option O := fun x => x.isN.map fun k => .sh (.bl (!k))
theorem se_isN {j p'} (ha : SE X W a ma) : SE X W (.Compare a [.Is] [.Constant .none j p'] pos) (mUn isNF ma) :=
  ⟨PE.imp (pe_cmp (pc_isN ha.pe)) fun σ H Q h => tUn_of (r := fun x H1 Q => Q (.bl (decide (x = .non))) H1) (fun x o u H L Q e gd q => by
    unfold isNF at e
    cases hk : x.isN with
    | none => rw [hk] at e; cases e
    | some k =>
      rw [hk] at e; cases e
      rw [gd.rep.isN hk]
      exact q _ H (gd.tail.flat fun Z => rfl)) h, ha.len.un⟩
theorem se_notN {j p'} (ha : SE X W a ma) : SE X W (.Compare a [.IsNot] [.Constant .none j p'] pos) (mUn notNF ma) :=
  ⟨PE.imp (pe_cmp (pc_notN ha.pe)) fun σ H Q h => tUn_of (r := fun x H1 Q => Q (.bl (!decide (x = .non))) H1) (fun x o u H L Q e gd q => by
    unfold notNF at e
    cases hk : x.isN with
    | none => rw [hk] at e; cases e
    | some k =>
      rw [hk] at e; cases e
      rw [gd.rep.isN hk]
      exact q _ H (gd.tail.flat fun Z => rfl)) h, ha.len.un⟩
end
end Ow

set_option Elab.async false
set_option linter.all false
set_option maxRecDepth 100000
set_option maxHeartbeats 1000000
/-! Ow4: tests, boolean operators, chains, in, subscripts, slices, displays, built-ins. -/
namespace Ow
open PySem PySem.Spec PyProof.Rows L2

/-! ### truth -/
def D.tru : D → Option Bool
  | .non => some false
  | .bl b => some b
  | .int i => some (i != 0)
  | .str s => if s.length ≤ sizeLine then some ((s.length : Int) != 0) else none
  | .lst xs => some (!xs.isEmpty)
  | .tup xs => some (!xs.isEmpty)
  | .gl _ => none
  | .dct _ _ => none
theorem empty_len {α β : Type} : ∀ {xs : List α} {ys : List β}, xs.length = ys.length → xs.isEmpty = ys.isEmpty
  | [], [], _ => rfl
  | _ :: _, _ :: _, _ => rfl
  | [], _ :: _, h => by simp at h
  | _ :: _, [], h => by simp at h
theorem RepD.tru {K : PySem.W.Frag} {H : Hp} {Z : List Addr} {d : D} {v : V} {k : Bool} (h : RepD K H Z d v) (e : d.tru = some k) : TruV K v H k := by
  cases d with
  | non => cases e; rw [show v = .non from h]; exact rfl
  | bl b => rw [show v = .bl b from h]; cases e; exact rfl
  | int b => rw [show v = .int b from h]; cases e; exact rfl
  | str b =>
    rw [show v = .str b from h]
    have e : (if b.length ≤ sizeLine then some ((b.length : Int) != 0) else none) = some k := e
    split at e
    · rename_i hc; cases e; exact ⟨hc, rfl⟩
    · cases e
  | gl b => cases e
  | dct _ _ => cases e
  | lst xs => cases e; obtain ⟨a, vs, e, n, r, hs⟩ := h; rw [e]; exact .inl ⟨vs, r.sq, by rw [empty_len hs.len]⟩
  | tup xs => cases e; obtain ⟨a, vs, e, n, r, hs⟩ := h; rw [e]; exact .inr (.inl ⟨vs, r.sq, by rw [empty_len hs.len]⟩)
def ofOptB (x : Option Bool) : M Bool := match x with
  | some k => M.ret k
  | none => M.no
theorem Len.optB {x : Option Bool} : Len (ofOptB x) := by cases x <;> first | exact Len.ret | exact Len.no
def mTru (m : M O) : M Bool := m.bind fun x => ofOptB x.er.tru
theorem Len.tru {m : M O} (h : Len m) : Len (mTru m) := h.bind fun _ => Len.optB
/-- a truth value that is told as one -/
def O.asB : O → Option Bool
  | .sh (.bl k) => some k
  | _ => none
def mTst (m : M O) : M Bool := m.bind fun o => ofOptB o.asB
theorem Len.tst {m : M O} (h : Len m) : Len (mTst m) := h.bind fun _ => Len.optB
section
variable {X : Cx} {W : WX} {a b c : Expr} {ma mb mc : M O} {mt mu : M Bool} {pos : Pos} {x : Str} {K : PySem.W.Frag} {mg : Str → Option Value} {rest : List Expr}
theorem st_truth (ha : SE X W a ma) (he : ∀ whole, isTrue a X.env whole = (do let v ← whole; standAt a.pos; holding [v] (truthy v)) := by intro _; rfl) : ST X W a (mTru ma) := by
  refine ⟨PT.imp (pt_truth ha.pe he) fun σ H Q h => ?_, ha.len.tru⟩
  obtain ⟨e, L, hl, g, h⟩ := h
  refine ⟨e, L, hl, g, h.bind.mono fun o e1 q1 ⟨_, h1⟩ v H1 g1 => ?_⟩
  cases hk : o.er.tru with
  | none => rw [hk] at h1; exact h1.elim
  | some k => rw [hk] at h1; exact ⟨k, g1.er.rep.tru hk, h1 H1 g1.tail⟩
/-- a name's truth, what it holds stays as it is -/
def mNmTru (i : Nat) : M Bool := slotM i fun o => ofOptB o.er.tru
theorem st_name (i : Nat) (hN : X.N[i]? = some x := by rfl) (hv : Vis X.env.scope x := by first | exact Or.inl rfl | exact Or.inr (Or.inl rfl) | exact Or.inr (Or.inr rfl)) (hd : (x == ("__debug__" : Str)) = false := by decide) (hcd : (x == ("__classdict__" : Str)) = false := by decide) : ST X W (.Name x pos) (mNmTru i) := by
  refine ⟨PT.imp (pt_truth (pe_var hN hv hd hcd) fun _ => rfl) fun σ H Q h => ?_, Len.slot fun _ => Len.optB⟩
  obtain ⟨e, L, hl, g, h⟩ := h
  obtain ⟨o, ho, h⟩ := Post.slot h
  obtain ⟨v, hv⟩ := slot_val ho hl g
  refine ⟨v, hv, ?_⟩
  cases hk : o.er.tru with
  | none => rw [hk] at h; exact h.elim
  | some k => rw [hk] at h; exact ⟨k, (g.take ho hv).er.rep.tru hk, h H g⟩
theorem tM_tst {m : M O} {σ : L2.St} {H : Hp} {Q : Bool → Hp → Prop} (h : tB K mg W (mTst m) σ H Q) : tM K mg W m σ H (fun v H1 => ∃ k, v = .bl k ∧ Q k H1) := by
  obtain ⟨e, L, hl, g, h⟩ := h
  refine ⟨e, L, hl, g, h.bind.mono fun o e1 q1 ⟨_, h1⟩ v H1 g1 => ?_⟩
  cases hk : o.asB with
  | none => rw [hk] at h1; exact h1.elim
  | some k =>
    rw [hk] at h1
    unfold O.asB at hk
    split at hk
    · cases hk; exact ⟨k, g1.rep, h1 H1 g1.tail⟩
    · cases hk
theorem st_cmp {op : CmpOp} {r : R2} {f : D → D → Option O} (ho : OpR X (compareOp op) r) (hf : FOk X.K r f) (hm : behindInMarks op b = false) (ha : SE X W a ma) (hb : SE X W b mb) : ST X W (.Compare a [op] [b] pos) (mTst (mBin f ma mb)) :=
  ⟨PT.imp (pt_cmpR ho ha.pe hb.pe hm) fun _ _ _ h => tOp_of hf (tM_tst h) ha.len, (ha.len.bin hb.len).tst⟩
theorem st_eq (hu : X.A.units + 64 < cLine) (ha : SE X W a ma) (hb : SE X W b mb) : ST X W (.Compare a [.Eq] [b] pos) (mTst (mBin eqF ma mb)) := st_cmp (op_eqD hu) eqF_ok (nomark b) ha hb
theorem st_ne (hu : X.A.units + 64 < cLine) (ha : SE X W a ma) (hb : SE X W b mb) : ST X W (.Compare a [.NotEq] [b] pos) (mTst (mBin neF ma mb)) := st_cmp (op_neD hu) neF_ok (nomark b) ha hb
theorem st_lt (ha : SE X W a ma) (hb : SE X W b mb) : ST X W (.Compare a [.Lt] [b] pos) (mTst (mBin ltI ma mb)) := st_cmp op_lt (ii0_ok fun _ _ _ _ => rfl) (nomark b) ha hb
theorem st_le (ha : SE X W a ma) (hb : SE X W b mb) : ST X W (.Compare a [.LtE] [b] pos) (mTst (mBin leI ma mb)) := st_cmp op_le (ii0_ok fun _ _ _ _ => rfl) (nomark b) ha hb
theorem st_gt (ha : SE X W a ma) (hb : SE X W b mb) : ST X W (.Compare a [.Gt] [b] pos) (mTst (mBin gtI ma mb)) := st_cmp op_gt (ii0_ok fun _ _ _ _ => rfl) (nomark b) ha hb
theorem st_ge (ha : SE X W a ma) (hb : SE X W b mb) : ST X W (.Compare a [.GtE] [b] pos) (mTst (mBin geI ma mb)) := st_cmp op_ge (ii0_ok fun _ _ _ _ => rfl) (nomark b) ha hb
theorem st_isN {j p'} (ha : SE X W a ma) : ST X W (.Compare a [.Is] [.Constant .none j p'] pos) (mTst (mUn isNF ma)) := by
  refine ⟨PT.imp (pt_cmp (pc_isN ha.pe)) fun σ H Q h => ?_, ha.len.un.tst⟩
  exact tUn_of (r := fun x H1 Q => Q (.bl (decide (x = .non))) H1) (fun x o u H L Q e gd q => by
    unfold isNF at e
    cases hk : x.isN with
    | none => rw [hk] at e; cases e
    | some k =>
      rw [hk] at e; cases e
      rw [gd.rep.isN hk]
      exact q _ H (gd.tail.flat fun Z => rfl)) (tM_tst h)
theorem st_notN {j p'} (ha : SE X W a ma) : ST X W (.Compare a [.IsNot] [.Constant .none j p'] pos) (mTst (mUn notNF ma)) := by
  refine ⟨PT.imp (pt_cmp (pc_notN ha.pe)) fun σ H Q h => ?_, ha.len.un.tst⟩
  exact tUn_of (r := fun x H1 Q => Q (.bl (!decide (x = .non))) H1) (fun x o u H L Q e gd q => by
    unfold notNF at e
    cases hk : x.isN with
    | none => rw [hk] at e; cases e
    | some k =>
      rw [hk] at e; cases e
      rw [gd.rep.isN hk]
      exact q _ H (gd.tail.flat fun Z => rfl)) (tM_tst h)

/-! ### and, or, not -/
structure SW (X : Cx) (W : WX) (e : Expr) (m : M Bool) : Prop where
  pw : PW X e (tB X.K X.mg W m)
  len : Len m
theorem PW.imp {X : Cx} {e : Expr} {t t' : TT} (h : PW X e t) (i : ∀ σ H Q, t' σ H Q → t σ H Q) : PW X e t' := ⟨fun wh pins s σ H Q I q => h.run wh pins s σ H Q I (i σ H Q q)⟩
theorem SW.st {e : Expr} {m : M Bool} (h : SW X W e m) : ST X W e m := ⟨h.pw.pt, h.len⟩
def mAnd (ma mb : M Bool) : M Bool := ma.bind fun k => if k then mb else M.ret false
def mOr (ma mb : M Bool) : M Bool := ma.bind fun k => if k then M.ret true else mb
theorem Len.ite {α : Type} {k : Bool} {m m' : M α} (h : Len m) (h' : Len m') : Len (if k then m else m') := by cases k <;> assumption
theorem Len.and {ma mb : M Bool} (h : Len ma) (h' : Len mb) : Len (mAnd ma mb) := h.bind fun _ => Len.ite h' Len.ret
theorem Len.or {ma mb : M Bool} (h : Len ma) (h' : Len mb) : Len (mOr ma mb) := h.bind fun _ => Len.ite Len.ret h'
theorem sw_and1 (h : ST X W a mt) : SW X W (.BoolOp .And [a] pos) mt := ⟨pw_and1 h.pt, h.len⟩
theorem sw_or1 (h : ST X W a mt) : SW X W (.BoolOp .Or [a] pos) mt := ⟨pw_or1 h.pt, h.len⟩
theorem sw_and (ha : ST X W a mt) (hb : SW X W (.BoolOp .And (b :: rest) pos) mu) : SW X W (.BoolOp .And (a :: b :: rest) pos) (mAnd mt mu) := by
  refine ⟨PW.imp (pw_and ha.pt hb.pw) fun σ H Q h => ?_, ha.len.and hb.len⟩
  obtain ⟨e, L, hl, g, h⟩ := h
  refine ⟨e, L, hl, g, h.bind.mono fun k e1 q1 ⟨_, h1⟩ H1 g1 => ?_⟩
  cases k with
  | true => exact ⟨e1, L, (ha.len.1 _ _ _ q1).trans hl, g1, h1⟩
  | false => exact h1 H1 g1
theorem sw_or (ha : ST X W a mt) (hb : SW X W (.BoolOp .Or (b :: rest) pos) mu) : SW X W (.BoolOp .Or (a :: b :: rest) pos) (mOr mt mu) := by
  refine ⟨PW.imp (pw_or ha.pt hb.pw) fun σ H Q h => ?_, ha.len.or hb.len⟩
  obtain ⟨e, L, hl, g, h⟩ := h
  refine ⟨e, L, hl, g, h.bind.mono fun k e1 q1 ⟨_, h1⟩ H1 g1 => ?_⟩
  cases k with
  | false => exact ⟨e1, L, (ha.len.1 _ _ _ q1).trans hl, g1, h1⟩
  | true => exact h1 H1 g1
def mNotB (m : M Bool) : M Bool := m.bind fun k => M.ret (!k)
theorem st_not (ha : ST X W a mt) : ST X W (.UnaryOp .Not a pos) (mNotB mt) := by
  refine ⟨PT.imp (pt_not ha.pt) fun σ H Q h => ?_, ha.len.bind fun _ => Len.ret⟩
  obtain ⟨e, L, hl, g, h⟩ := h
  exact ⟨e, L, hl, g, h.bind.mono fun k e1 q1 ⟨_, h1⟩ H1 g1 => h1 H1 g1⟩
/-- as values -/
def mAndV (ma mb : M O) : M O := ma.bind fun o => match o.asB with
  | some true => mb
  | some false => M.ret (.sh (.bl false))
  | none => M.no
def mOrV (ma mb : M O) : M O := ma.bind fun o => match o.asB with
  | some false => mb
  | some true => M.ret (.sh (.bl true))
  | none => M.no
theorem asB_some {o : O} {k : Bool} (h : o.asB = some k) : o = .sh (.bl k) := by
  unfold O.asB at h
  split at h
  · cases h; rfl
  · cases h
theorem se_and1 {op} (ha : SE X W a ma) : SE X W (.BoolOp op [a] pos) ma := ⟨pe_one ha.pe, ha.len⟩
theorem Len.andV {ma mb : M O} (h : Len ma) (h' : Len mb) : Len (mAndV ma mb) := h.bind fun o => by
  split
  · exact h'
  · exact Len.ret
  · exact Len.no
theorem Len.orV {ma mb : M O} (h : Len ma) (h' : Len mb) : Len (mOrV ma mb) := h.bind fun o => by
  split
  · exact h'
  · exact Len.ret
  · exact Len.no
theorem se_and (ha : SE X W a ma) (hb : SE X W (.BoolOp .And (b :: rest) pos) mb) : SE X W (.BoolOp .And (a :: b :: rest) pos) (mAndV ma mb) := by
  refine ⟨PE.imp (pe_and ha.pe hb.pe) fun σ H Q h => ?_, ha.len.andV hb.len⟩
  obtain ⟨e, L, hl, g, h⟩ := h
  refine ⟨e, L, hl, g, h.bind.mono fun o e1 q1 ⟨_, h1⟩ v H1 g1 => ?_⟩
  cases hk : o.asB with
  | none => rw [hk] at h1; exact h1.elim
  | some k =>
    have eo := asB_some hk
    subst eo
    refine ⟨k, g1.rep, ?_⟩
    rw [hk] at h1
    cases k with
    | true => exact ⟨e1, L, (ha.len.1 _ _ _ q1).trans hl, g1.tail, h1⟩
    | false => exact h1 _ H1 (g1.tail.flat fun Z => rfl)
theorem se_or (ha : SE X W a ma) (hb : SE X W (.BoolOp .Or (b :: rest) pos) mb) : SE X W (.BoolOp .Or (a :: b :: rest) pos) (mOrV ma mb) := by
  refine ⟨PE.imp (pe_or ha.pe hb.pe) fun σ H Q h => ?_, ha.len.orV hb.len⟩
  obtain ⟨e, L, hl, g, h⟩ := h
  refine ⟨e, L, hl, g, h.bind.mono fun o e1 q1 ⟨_, h1⟩ v H1 g1 => ?_⟩
  cases hk : o.asB with
  | none => rw [hk] at h1; exact h1.elim
  | some k =>
    have eo := asB_some hk
    subst eo
    refine ⟨k, g1.rep, ?_⟩
    rw [hk] at h1
    cases k with
    | false => exact ⟨e1, L, (ha.len.1 _ _ _ q1).trans hl, g1.tail, h1⟩
    | true => exact h1 _ H1 (g1.tail.flat fun Z => rfl)
def mNotV (ma : M O) : M O := ma.bind fun o => ofOpt (o.er.tru.map fun k => .sh (.bl (!k)))
theorem se_not (ha : SE X W a ma) : SE X W (.UnaryOp .Not a pos) (mNotV ma) := by
  refine ⟨PE.imp (pe_notT ha.pe) fun σ H Q h => ?_, ha.len.bind fun _ => Len.opt⟩
  obtain ⟨e, L, hl, g, h⟩ := h
  refine ⟨e, L, hl, g, h.bind.mono fun o e1 q1 ⟨_, h1⟩ v H1 g1 => ?_⟩
  cases hk : o.er.tru with
  | none => rw [hk] at h1; exact h1.elim
  | some k => rw [hk] at h1; exact ⟨k, g1.er.rep.tru hk, h1 _ H1 (g1.tail.flat fun Z => rfl)⟩
def mNeg : D → Option O
  | .int i => some (.sh (.int (-i)))
  | _ => none
theorem se_neg (ha : SE X W a ma) : SE X W (.UnaryOp .USub a pos) (mUn mNeg ma) :=
  ⟨PE.imp (pe_un un_neg ha.pe) fun σ H Q h => tUn_of (r := fun x H1 Q => rU (fun i => .int (-i)) x H1 Q) (fun x o u H L Q e gd q => by
    unfold mNeg at e
    split at e
    · rename_i i
      cases e
      exact ⟨i, gd.rep, q _ H (gd.tail.flat fun Z => rfl)⟩
    · cases e) h, ha.len.un⟩
/-- a if t else b -/
def mIf {α : Type} (mt : M Bool) (ma mb : M α) : M α := mt.bind fun k => if k then ma else mb
theorem Len.mif {α : Type} {mt : M Bool} {ma mb : M α} (h : Len mt) (h1 : Len ma) (h2 : Len mb) : Len (mIf mt ma mb) := h.bind fun _ => Len.ite h1 h2
theorem se_if (hc : ST X W c mt) (ha : SE X W a ma) (hb : SE X W b mb) : SE X W (.IfExp c a b pos) (mIf mt ma mb) := by
  refine ⟨PE.imp (pe_ifExp hc.pt ha.pe hb.pe) fun σ H Q h => ?_, hc.len.mif ha.len hb.len⟩
  obtain ⟨e, L, hl, g, h⟩ := h
  refine ⟨e, L, hl, g, h.bind.mono fun k e1 q1 ⟨_, h1⟩ H1 g1 => ?_⟩
  cases k with
  | true => exact ⟨e1, L, (hc.len.1 _ _ _ q1).trans hl, g1, h1⟩
  | false => exact ⟨e1, L, (hc.len.1 _ _ _ q1).trans hl, g1, h1⟩
/-- a < b < c -/
def mChain (f f' : D → D → Option O) (ma mb mc : M O) : M O := ma.bind fun x => mb.bind fun y => match f x.er y.er with
  | some (.sh (.bl true)) => mc.bind fun z => ofOpt (f' y.er z.er)
  | some (.sh (.bl false)) => M.ret (.sh (.bl false))
  | _ => M.no
theorem Len.chain {f f' : D → D → Option O} (ha : Len ma) (hb : Len mb) (hc : Len mc) : Len (mChain f f' ma mb mc) := ha.bind fun _ => hb.bind fun _ => by
  split
  · exact hc.bind fun _ => Len.opt
  · exact Len.ret
  · exact Len.no
theorem tChain_of {r r' : R2} {f f' : D → D → Option O} (hf : FOk K r f) (hf' : FOk K r' f') {σ : L2.St} {H : Hp} {Q : VK} (h : tM K mg W (mChain f f' ma mb mc) σ H Q) (la : Len ma) (lb : Len mb) : tChain r r' (tM K mg W ma) (tM K mg W mb) (tM K mg W mc) σ H Q := by
  obtain ⟨e, L, hl, g, h⟩ := h
  refine ⟨e, L, hl, g, h.bind.mono fun x e1 q1 ⟨_, h1⟩ u H1 g1 => ?_⟩
  refine ⟨e1, (some x, some u) :: L, (la.1 _ _ _ q1).trans hl, g1.perm List.perm_middle.symm, h1.bind.more1 fun y e2 q2 ⟨_, h2⟩ v H2 g2 => ?_⟩
  have p2 : ((some y, some v) :: (e2.zip σ ++ ((some x, some u) :: L))).Perm ((some x, some u) :: (some y, some v) :: (e2.zip σ ++ L)) := (List.Perm.cons _ List.perm_middle).trans (List.Perm.swap _ _ _)
  have g3 := (g2.perm p2).er.rot.er.rot
  -- the middle one is read twice
  have g4 : G K [] H2 ((some (.sh x.er), some u) :: (some (.sh y.er), some v) :: (some (.sh y.er), some v) :: (e2.zip σ ++ L)) := (g3.rot.dup).perm ((List.Perm.cons _ (List.Perm.swap _ _ _)).trans (List.Perm.swap _ _ _))
  cases hq : f x.er y.er with
  | none => rw [hq] at h2; exact h2.elim
  | some o =>
    rw [hq] at h2
    refine hf _ _ o u v H2 _ _ hq g4 fun w H3 g5 => ?_
    match o, h2, g5 with
    | .sh (.bl true), h2, g5 =>
      refine ⟨true, g5.rep, ?_⟩
      show tM K mg W mc σ H3 fun w' H4 => r' v w' H4 Q
      have g6 := g5.tail
      have l2 := (lb.1 _ _ _ q2).trans ((la.1 _ _ _ q1).trans hl)
      refine ⟨e2, (some (.sh y.er), some v) :: L, l2, g6.perm List.perm_middle.symm, h2.bind.more1 fun z e3 q3 ⟨_, h3⟩ w' H4 g7 => ?_⟩
      have p3 : ((some z, some w') :: (e3.zip σ ++ ((some (.sh y.er), some v) :: L))).Perm ((some (.sh y.er), some v) :: (some z, some w') :: (e3.zip σ ++ L)) := (List.Perm.cons _ List.perm_middle).trans (List.Perm.swap _ _ _)
      have g8 := (g7.perm p3).rot.er.rot
      cases hq' : f' y.er z.er with
      | none => rw [hq'] at h3; exact h3.elim
      | some o' => rw [hq'] at h3; exact hf' _ _ o' v w' H4 _ Q hq' g8 h3
    | .sh (.bl false), h2, g5 =>
      refine ⟨false, g5.rep, ?_⟩
      exact h2 _ H3 (g5.tail.tail.flat fun Z => rfl)
    | .sh .non, h2, g5 => exact h2.elim
    | .sh (.int _), h2, g5 => exact h2.elim
    | .sh (.str _), h2, g5 => exact h2.elim
    | .sh (.gl _), h2, g5 => exact h2.elim
    | .sh (.dct _ _), h2, g5 => exact h2.elim
    | .sh (.lst _), h2, g5 => exact h2.elim
    | .sh (.tup _), h2, g5 => exact h2.elim
    | .lst _, h2, g5 => exact h2.elim
    | .tup _, h2, g5 => exact h2.elim
    | .tab _, h2, g5 => exact h2.elim
    | .pin _, h2, g5 => exact h2.elim
theorem se_lele (ha : SE X W a ma) (hb : SE X W b mb) (hc : SE X W c mc) (hm : lastMarks [.LtE, .LtE] [b, c] = false := by with_unfolding_all rfl) : SE X W (.Compare a [.LtE, .LtE] [b, c] pos) (mChain leI leI ma mb mc) :=
  ⟨PE.imp (pe_chain op_le op_le ha.pe hb.pe hc.pe hm) fun _ _ _ h => tChain_of (ii0_ok (g := fun i j => .bl (decide (i ≤ j))) fun _ _ _ _ => rfl) (ii0_ok (g := fun i j => .bl (decide (i ≤ j))) fun _ _ _ _ => rfl) h ha.len hb.len, ha.len.chain hb.len hc.len⟩
theorem st_lele (ha : SE X W a ma) (hb : SE X W b mb) (hc : SE X W c mc) (hm : lastMarks [.LtE, .LtE] [b, c] = false := by with_unfolding_all rfl) : ST X W (.Compare a [.LtE, .LtE] [b, c] pos) (mTst (mChain leI leI ma mb mc)) :=
  ⟨PT.imp (pt_chain op_le op_le ha.pe hb.pe hc.pe hm) fun _ _ _ h => tChain_of (ii0_ok (g := fun i j => .bl (decide (i ≤ j))) fun _ _ _ _ => rfl) (ii0_ok (g := fun i j => .bl (decide (i ≤ j))) fun _ _ _ _ => rfl) (tM_tst h) ha.len hb.len, (ha.len.chain hb.len hc.len).tst⟩
end
end Ow

set_option Elab.async false
set_option linter.all false
set_option maxRecDepth 100000
set_option maxHeartbeats 1000000
/-! Ow5: subscripts, slices, in, displays, built-in functions and methods. -/
namespace Ow
open PySem PySem.Spec PyProof.Rows L2

section
variable {X : Cx} {W : WX} {a b c : Expr} {ma mb mc : M O} {mt mu : M Bool} {pos : Pos} {x : Str} {K : PySem.W.Frag} {mg : Str → Option Value} {rest : List Expr}
theorem atI_some {α : Type} {xs : List α} {i : Int} {x : α} (h : atI xs i = some x) : ∃ j, ixN xs.length i = some j ∧ xs[j]? = some x := by
  unfold atI at h
  cases q : ixN xs.length i with
  | none => rw [q] at h; cases h
  | some j => rw [q] at h; exact ⟨j, rfl, h⟩
theorem atI_of {α : Type} {xs : List α} {i : Int} {j : Nat} {x : α} (h : ixN xs.length i = some j) (h2 : xs[j]? = some x) : atI xs i = some x := by
  unfold atI
  rw [h]; exact h2
/-! ### a[i] -/
def ixF : D → D → Option O
  | .lst xs, .int i => (atI xs i).map .sh
  | .tup xs, .int i => (atI xs i).map .sh
  | .str s, .int i => if s.length ≤ sizeLine then (atI s.cps.toList i).map fun c => .sh (.str ⟨#[c]⟩) else none
  | _, _ => none
theorem ixF_ok : FOk K (rIx K) ixF := by
  intro x y o u v H L Q e gd q
  unfold ixF at e
  split at e
  · rename_i xs i
    obtain ⟨d, hd, rfl⟩ := Option.map_eq_some_iff.mp e
    obtain ⟨j, h1, h2⟩ := atI_some hd
    have e2 : v = .int i := gd.tail.rep
    obtain ⟨a, vs, rfl, hH, n, el, F, hs, hl, nd⟩ := gd.lst
    obtain ⟨w, hw, r⟩ := hs.get h2
    obtain ⟨F1, F2, f1, f2, rfl⟩ := hl
    have e1 : F1 = [] := f1.1
    subst e1
    exact .inl ⟨a, vs, i, w, rfl, e2, .inl (.inl hH), atI_of (by rw [← el]; exact h1) hw, q w H (.of r f2 nd)⟩
  · rename_i xs i
    obtain ⟨d, hd, rfl⟩ := Option.map_eq_some_iff.mp e
    obtain ⟨j, h1, h2⟩ := atI_some hd
    have e2 : v = .int i := gd.tail.rep
    obtain ⟨a, vs, rfl, hH, n, el, F, hs, hl, nd⟩ := gd.tupl
    obtain ⟨w, hw, r⟩ := hs.get h2
    obtain ⟨F1, F2, f1, f2, rfl⟩ := hl
    have e1 : F1 = [] := f1.1
    subst e1
    exact .inr (.inl ⟨a, vs, i, w, rfl, e2, hH, atI_of (by rw [← el]; exact h1) hw, q w H (.of r f2 nd)⟩)
  · rename_i s i
    split at e
    · rename_i hc
      obtain ⟨ch, hd, rfl⟩ := Option.map_eq_some_iff.mp e
      have e1 : u = .str s := gd.rep
      have e2 : v = .int i := gd.tail.rep
      subst e1 e2
      exact .inr (.inr ⟨s, i, ch, rfl, rfl, hc, hd, q _ H (gd.tail.tail.flat fun Z => rfl)⟩)
    · cases e
  · cases e
theorem se_ix (ha : SE X W a ma) (hb : SE X W b mb) (hs : PlainIx b := by exact fun _ _ => rfl) : SE X W (.Subscript a b pos) (mBin ixF ma mb) :=
  ⟨PE.imp (pe_ix ix_seq ha.pe hb.pe hs) fun _ _ _ h => tOp_of ixF_ok h ha.len, ha.len.bin hb.len⟩
/-! ### slices -/
def cutD {α : Type} (xs : List α) (lo hi : Option Int) : List α := (xs.drop (HT.sIx xs.length 0 lo)).take (HT.sIx xs.length xs.length hi - HT.sIx xs.length 0 lo)
def slF : D → Option Int → Option Int → Option O
  | .lst xs, lo, hi => some (.lst ((cutD xs lo hi).map .sh))
  | .str s, lo, hi => if s.length ≤ sizeLine then some (.sh (.str (cutS s lo hi))) else none
  | _, _, _ => none
structure SPt (X : Cx) (W : WX) (oe : Option Expr) (m : M (Option Int)) : Prop where
  run : PO X oe (fun σ H Q => ∃ (e : Sl) (L : List Item), e.length = σ.length ∧ G X.K [] H (e.zip σ ++ L) ∧ Post X.K X.mg W σ L (m e) fun i e' => ∀ H', G X.K [] H' (e'.zip σ ++ L) → Q i H')
  len : Len m
def D.asI : D → Option Int
  | .int i => some i
  | _ => none
def ofG {α : Type} (x : Option α) : M α := match x with
  | some k => M.ret k
  | none => M.no
theorem Len.ofG {α : Type} {x : Option α} : Len (ofG x) := by cases x <;> first | exact Len.ret | exact Len.no
theorem RepD.asI {H : Hp} {Z : List Addr} {d : D} {v : V} {i : Int} (h : RepD K H Z d v) (e : d.asI = some i) : v = .int i := by
  cases d <;> first | (cases e; exact h) | cases e
def mPart (m : M O) : M (Option Int) := m.bind fun o => ofG (o.er.asI.map some)
theorem PO.imp {X : Cx} {e : Option Expr} {t t' : TO} (h : PO X e t) (i : ∀ σ H Q, t' σ H Q → t σ H Q) : PO X e t' := ⟨fun pins s σ H Q I q => h.run pins s σ H Q I (i σ H Q q)⟩
theorem sp_none : SPt X W none (M.ret none) := by
  refine ⟨PO.imp po_none fun σ H Q h => ?_, Len.ret⟩
  obtain ⟨e, L, hl, g, h⟩ := h
  exact h H g
theorem Len.part {m : M O} (h : Len m) : Len (mPart m) := h.bind fun o => Len.ofG
theorem sp_some (ha : SE X W a ma) : SPt X W (some a) (mPart ma) := by
  refine ⟨PO.imp (po_some ha.pe) fun σ H Q h => ?_, ha.len.part⟩
  obtain ⟨e, L, hl, g, h⟩ := h
  refine ⟨e, L, hl, g, h.bind.mono fun o e1 q1 ⟨_, h1⟩ v H1 g1 => ?_⟩
  cases hi : o.er.asI with
  | none => rw [hi] at h1; exact h1.elim
  | some i => rw [hi] at h1; exact ⟨i, g1.er.rep.asI hi, h1 H1 g1.tail⟩
def mSl (ma : M O) (ml mh : M (Option Int)) : M O := ma.bind fun x => ml.bind fun lo => mh.bind fun hi => ofOpt (slF x.er lo hi)
theorem RepDs.cut {H : Hp} {Z : List Addr} : ∀ {xs : List D} {vs : List V} (n : Nat), RepDs K H Z xs vs → RepDs K H Z (xs.drop n) (vs.drop n) ∧ RepDs K H Z (xs.take n) (vs.take n)
  | xs, vs, 0, h => ⟨by simpa using h, by simp; rfl⟩
  | [], vs, n + 1, h => by rw [show vs = [] from h]; exact ⟨by simp; rfl, by simp; rfl⟩
  | x :: xs, vs, n + 1, h => by
    obtain ⟨v, r, e, h1, h2⟩ := h
    subst e
    obtain ⟨h3, h4⟩ := RepDs.cut n h2
    exact ⟨by simpa using h3, v, r.take n, by simp, h1, h4⟩
theorem slF_ok {d : D} {lo hi : Option Int} {o : O} {v : V} {H : Hp} {L : List Item} {Q : VK} (e : slF d lo hi = some o) (g : G K [] H ((some (.sh d), some v) :: L)) (q : ∀ w H', G K [] H' ((some o, some w) :: L) → Q w H') : rSlL K v lo hi H Q ∨ rSlS v lo hi H Q := by
  cases d with
  | lst xs =>
    cases e
    obtain ⟨a, vs, rfl, hH, n, el, F, hs, hl', nd⟩ := g.lst
    refine .inl ⟨a, vs, rfl, .inl (.inl hH), fun p np => q _ _ ?_⟩
    have hs2 : RepDs K H ([] ++ F) (cutD xs lo hi) (cutV vs lo hi) := by
      unfold cutD cutV
      rw [el]
      exact (RepDs.cut _ (RepDs.cut _ hs).1).2
    exact (G.many hs2 hl' nd).newL (by simpa using hs2.len) (Nat.le_trans (cutV_length _ _ _) n) np
  | str s =>
    have e : (if s.length ≤ sizeLine then some (O.sh (.str (cutS s lo hi))) else none) = some o := e
    split at e
    · rename_i hc
      cases e
      exact .inr ⟨s, g.rep, hc, q _ _ (g.tail.flat fun Z => rfl)⟩
    · cases e
  | non => cases e
  | bl _ => cases e
  | int _ => cases e
  | gl _ => cases e
  | dct _ _ => cases e
  | tup _ => cases e
theorem se_slice {lo hi : Option Expr} {ml mh : M (Option Int)} {p2 : Pos} (ha : SE X W a ma) (hl : SPt X W lo ml) (hh : SPt X W hi mh) : SE X W (.Subscript a (.Slice lo hi none p2) pos) (mSl ma ml mh) := by
  refine ⟨PE.imp (pe_slice (sl_list.or sl_str) ha.pe hl.run hh.run) fun σ H Q h => ?_, ha.len.bind fun _ => hl.len.bind fun _ => hh.len.bind fun _ => Len.opt⟩
  obtain ⟨e, L, hle, g, h⟩ := h
  refine ⟨e, L, hle, g, h.bind.mono fun o e1 q1 ⟨_, h1⟩ v H1 g1 => ?_⟩
  refine ⟨e1, (some o, some v) :: L, (ha.len.1 _ _ _ q1).trans hle, g1.perm List.perm_middle.symm, h1.bind.more1 fun l e2 q2 ⟨_, h2⟩ H2 g2 => ?_⟩
  have l2 := (hl.len.1 _ _ _ q2).trans ((ha.len.1 _ _ _ q1).trans hle)
  refine ⟨e2, (some o, some v) :: L, l2, g2, h2.bind.more1 fun u e3 q3 ⟨_, h3⟩ H3 g3 => ?_⟩
  have g4 := (g3.perm List.perm_middle).er
  cases hq : slF o.er l u with
  | none => rw [hq] at h3; exact h3.elim
  | some o' => rw [hq] at h3; exact slF_ok hq g4 h3

/-! ### in -/
def D.flat : D → Bool
  | .non => true
  | .bl _ => true
  | .int _ => true
  | .str _ => true
  | _ => false
theorem flat_v {H : Hp} {Z : List Addr} {d : D} {v : V} (f : d.flat = true) (h : RepD K H Z d v) : flatV v = true := by
  cases d with
  | non => rw [show v = .non from h]; rfl
  | bl b => rw [show v = .bl b from h]; rfl
  | int b => rw [show v = .int b from h]; rfl
  | str b => rw [show v = .str b from h]; rfl
  | gl b => cases f
  | dct _ _ => cases f
  | lst xs => cases f
  | tup xs => cases f
theorem flat_eq {H : Hp} {Z Z' : List Addr} {d e : D} {v u : V} (f : d.flat = true) (f' : e.flat = true) (h : RepD K H Z d v) (h' : RepD K H Z' e u) : eqV v u = PyData.eqv d.py e.py := by
  cases d with
  | gl b => cases f
  | dct _ _ => cases f
  | lst xs => cases f
  | tup xs => cases f
  | non =>
    rw [show v = .non from h]
    cases e with
    | gl b => cases f'
    | dct _ _ => cases f'
    | lst xs => cases f'
    | tup xs => cases f'
    | non => rw [show u = .non from h']; rfl
    | bl b => rw [show u = .bl b from h']; rfl
    | int b => rw [show u = .int b from h']; rfl
    | str b => rw [show u = .str b from h']; rfl
  | bl k =>
    rw [show v = .bl k from h]
    cases e with
    | gl b => cases f'
    | dct _ _ => cases f'
    | lst xs => cases f'
    | tup xs => cases f'
    | non => rw [show u = .non from h']; rfl
    | bl b => rw [show u = .bl b from h']; rfl
    | int b => rw [show u = .int b from h']; rfl
    | str b => rw [show u = .str b from h']; rfl
  | int k =>
    rw [show v = .int k from h]
    cases e with
    | gl b => cases f'
    | dct _ _ => cases f'
    | lst xs => cases f'
    | tup xs => cases f'
    | non => rw [show u = .non from h']; rfl
    | bl b => rw [show u = .bl b from h']; rfl
    | int b => rw [show u = .int b from h']; rfl
    | str b => rw [show u = .str b from h']; rfl
  | str k =>
    rw [show v = .str k from h]
    cases e with
    | gl b => cases f'
    | dct _ _ => cases f'
    | lst xs => cases f'
    | tup xs => cases f'
    | non => rw [show u = .non from h']; rfl
    | bl b => rw [show u = .bl b from h']; rfl
    | int b => rw [show u = .int b from h']; rfl
    | str b => rw [show u = .str b from h']; rfl
theorem flats_in {H : Hp} {Z Z' : List Addr} {d : D} {v : V} (f : d.flat = true) (h : RepD K H Z d v) : ∀ {xs : List D} {vs : List V}, xs.all D.flat = true → RepDs K H Z' xs vs → vs.all flatV = true ∧ inV v vs = xs.any fun z => PyData.eqv z.py d.py
  | [], vs, _, h2 => by rw [show vs = [] from h2]; exact ⟨rfl, rfl⟩
  | x :: xs, vs, f2, h2 => by
    obtain ⟨w, r, e, h3, h4⟩ := h2
    subst e
    rw [List.all_cons, Bool.and_eq_true] at f2
    obtain ⟨q1, q2⟩ := flats_in f h f2.2 h4
    refine ⟨by rw [List.all_cons, flat_v f2.1 h3, q1]; rfl, ?_⟩
    unfold inV at q2 ⊢
    rw [List.any_cons, List.any_cons, q2, flat_eq f2.1 f h3 h]
theorem any_pys (xs : List D) (d : PyData) : (D.pys xs).any (fun z => PyData.eqv z d) = xs.any fun z => PyData.eqv z.py d := by
  induction xs with
  | nil => rfl
  | cons x xs ih => rw [D.pys, List.any_cons, List.any_cons, ih]
/-- whether something is in a row: by == -/
def inB : D → D → Option Bool
  | x, .lst ys => if x.eqb && (D.lst ys).eqb then some (ys.any fun z => PyData.eqv z.py x.py) else none
  | x, .tup ys => if x.flat && ys.all D.flat then some (ys.any fun z => PyData.eqv z.py x.py) else none
  | .str s, .str t => match s.cps.toList with
    | [c] => some (decide (c ∈ t.cps.toList))
    | _ => none
  | _, _ => none
def inF (neg : Bool) : D → D → Option O := fun x y => (inB x y).map fun k => .sh (.bl (if neg then !k else k))
def rInA (K : PySem.W.Frag) : R2 := fun x y H Q => rInD K x y H Q ∨ rIn K false x y H Q ∨ ∃ (c : Nat) (z : Str), x = .str ⟨#[c]⟩ ∧ y = .str z ∧ Q (.bl (decide (c ∈ z.cps.toList))) H
def rNotInA (K : PySem.W.Frag) : R2 := fun x y H Q => rNotInD K x y H Q ∨ rIn K true x y H Q ∨ ∃ (c : Nat) (z : Str), x = .str ⟨#[c]⟩ ∧ y = .str z ∧ Q (.bl (!decide (c ∈ z.cps.toList))) H
theorem inF_ok : FOk K (rInA K) (inF false) := by
  intro x y o u v H L Q e gd q
  obtain ⟨k, hk, rfl⟩ := Option.map_eq_some_iff.mp e
  have fin : ∀ k', k = k' → Q (.bl k') H := fun k' ek => by subst ek; exact q _ H (gd.tail.tail.flat fun Z => rfl)
  unfold inB at hk
  split at hk
  · rename_i ys
    split at hk
    · rename_i hc
      cases hk
      rw [Bool.and_eq_true] at hc
      unfold D.eqb at hc
      rw [Bool.and_eq_true, Bool.and_eq_true] at hc
      refine .inl ⟨_, _, RepD.dp x u hc.1.1 gd.rep, RepD.dp (.lst ys) v hc.2.1 gd.tail.rep, hc.1.2, hc.2.2, fin _ ?_⟩
      exact (any_pys ys x.py).symm
    · cases hk
  · rename_i ys
    split at hk
    · rename_i hc
      cases hk
      rw [Bool.and_eq_true] at hc
      obtain ⟨a, vs, e2, hT, n, el, F, hs, _, _⟩ := gd.tail.tupl
      obtain ⟨q1, q2⟩ := flats_in hc.1 gd.rep hc.2 hs
      exact .inr (.inl ⟨a, vs, e2, .inr hT, flat_v hc.1 gd.rep, q1, fin _ q2.symm⟩)
    · cases hk
  · rename_i s t
    split at hk
    · rename_i ch hs
      cases hk
      have es : s = ⟨#[ch]⟩ := by
        cases s
        congr
        exact (Array.toList_inj.mp (by simpa using hs))
      subst es
      exact .inr (.inr ⟨ch, t, gd.rep, gd.tail.rep, fin _ rfl⟩)
    · cases hk
  · cases hk
theorem notInF_ok : FOk K (rNotInA K) (inF true) := by
  intro x y o u v H L Q e gd q
  obtain ⟨k, hk, rfl⟩ := Option.map_eq_some_iff.mp e
  have fin : ∀ k', k = k' → Q (.bl (!k')) H := fun k' ek => by subst ek; exact q _ H (gd.tail.tail.flat fun Z => rfl)
  unfold inB at hk
  split at hk
  · rename_i ys
    split at hk
    · rename_i hc
      cases hk
      rw [Bool.and_eq_true] at hc
      unfold D.eqb at hc
      rw [Bool.and_eq_true, Bool.and_eq_true] at hc
      refine .inl ⟨_, _, RepD.dp x u hc.1.1 gd.rep, RepD.dp (.lst ys) v hc.2.1 gd.tail.rep, hc.1.2, hc.2.2, fin _ ?_⟩
      exact (any_pys ys x.py).symm
    · cases hk
  · rename_i ys
    split at hk
    · rename_i hc
      cases hk
      rw [Bool.and_eq_true] at hc
      obtain ⟨a, vs, e2, hT, n, el, F, hs, _, _⟩ := gd.tail.tupl
      obtain ⟨q1, q2⟩ := flats_in hc.1 gd.rep hc.2 hs
      exact .inr (.inl ⟨a, vs, e2, .inr hT, flat_v hc.1 gd.rep, q1, fin _ q2.symm⟩)
    · cases hk
  · rename_i s t
    split at hk
    · rename_i ch hs
      cases hk
      have es : s = ⟨#[ch]⟩ := by
        cases s
        congr
        exact (Array.toList_inj.mp (by simpa using hs))
      subst es
      exact .inr (.inr ⟨ch, t, gd.rep, gd.tail.rep, fin _ rfl⟩)
    · cases hk
  · cases hk
theorem op_inA (hu : X.A.units + 65 < cLine) : OpR X (compareOp .In) (rInA X.K) := (op_inD hu).or (op_in_seq.or op_in_sign)
theorem op_notInA (hu : X.A.units + 65 < cLine) : OpR X (compareOp .NotIn) (rNotInA X.K) := (op_notInD hu).or (op_notIn_seq.or op_notIn_sign)
theorem se_in (hu : X.A.units + 65 < cLine) (ha : SE X W a ma) (hb : SE X W b mb) (hm : behindInMarks .In b = false := by rfl) : SE X W (.Compare a [.In] [b] pos) (mBin (inF false) ma mb) := se_cmp (op_inA hu) inF_ok hm ha hb
theorem se_notIn (hu : X.A.units + 65 < cLine) (ha : SE X W a ma) (hb : SE X W b mb) (hm : behindInMarks .NotIn b = false := by rfl) : SE X W (.Compare a [.NotIn] [b] pos) (mBin (inF true) ma mb) := se_cmp (op_notInA hu) notInF_ok hm ha hb
theorem st_in (hu : X.A.units + 65 < cLine) (ha : SE X W a ma) (hb : SE X W b mb) (hm : behindInMarks .In b = false := by rfl) : ST X W (.Compare a [.In] [b] pos) (mTst (mBin (inF false) ma mb)) := st_cmp (op_inA hu) inF_ok hm ha hb
theorem st_notIn (hu : X.A.units + 65 < cLine) (ha : SE X W a ma) (hb : SE X W b mb) (hm : behindInMarks .NotIn b = false := by rfl) : ST X W (.Compare a [.NotIn] [b] pos) (mTst (mBin (inF true) ma mb)) := st_cmp (op_notInA hu) notInF_ok hm ha hb

/-! ### rows of arguments, displays -/
variable {es : List Expr} {mas : M (List O)}
def mCons (m : M O) (ms : M (List O)) : M (List O) := m.bind fun o => ms.bind fun os => M.ret (o :: os)
theorem sa_nil : SA X W [] (M.ret []) := by
  refine ⟨PA.imp pa_nil fun σ H Q h => ?_, Len.ret⟩
  obtain ⟨e, L, hl, g, h⟩ := h
  exact h [] H rfl g
theorem sa_cons (ha : SE X W a ma) (hr : SA X W es mas) (hs : starEach (a :: es) X.env = (false, eval a X.env) :: starEach es X.env := by rfl) : SA X W (a :: es) (mCons ma mas) := by
  refine ⟨PA.imp (pa_cons ha.pe hr.pa hs) fun σ H Q h => ?_, ha.len.bind fun _ => hr.len.bind fun _ => Len.ret⟩
  obtain ⟨e, L, hl, g, h⟩ := h
  refine ⟨e, L, hl, g, h.bind.mono fun o e1 q1 ⟨_, h1⟩ v H1 g1 => ?_⟩
  refine ⟨e1, (some o, some v) :: L, (ha.len.1 _ _ _ q1).trans hl, g1.perm List.perm_middle.symm, h1.bind.more1 fun os e2 q2 ⟨_, h2⟩ vs H2 el g2 => ?_⟩
  refine h2 (v :: vs) H2 (by simp [el]) ?_
  rw [its_cons]
  exact g2.perm ((List.Perm.append_left _ List.perm_middle).trans List.perm_middle)
def mLst (ms : M (List O)) : M O := ms.bind fun os => if os.length ≤ sizeLine then M.ret (.lst os) else M.no
def mTup (ms : M (List O)) : M O := ms.bind fun os => if os.length ≤ sizeLine then M.ret (.tup os) else M.no
theorem Len.dite {α : Type} {p : Prop} [Decidable p] {m m' : M α} (h : Len m) (h' : Len m') : Len (if p then m else m') := by split <;> assumption
theorem se_lst (h : SA X W es mas) : SE X W (.List es pos) (mLst mas) := by
  refine ⟨PE.imp (pe_lst h.pa) fun σ H Q hq => ?_, h.len.bind fun _ => Len.dite Len.ret Len.no⟩
  obtain ⟨e, L, hl, g, hq⟩ := hq
  refine ⟨e, L, hl, g, hq.bind.mono fun os e1 q1 ⟨_, h1⟩ vs H1 el g1 => ?_⟩
  split at h1
  · rename_i hc
    exact ⟨by omega, fun p np => h1 _ _ (g1.newL el (by omega) np)⟩
  · exact h1.elim
theorem se_tup {k : Nat} (h : SA X W es mas) : SE X W (.Tuple es k pos) (mTup mas) := by
  refine ⟨PE.imp (pe_tup h.pa) fun σ H Q hq => ?_, h.len.bind fun _ => Len.dite Len.ret Len.no⟩
  obtain ⟨e, L, hl, g, hq⟩ := hq
  refine ⟨e, L, hl, g, hq.bind.mono fun os e1 q1 ⟨_, h1⟩ vs H1 el g1 => ?_⟩
  split at h1
  · rename_i hc
    exact ⟨by omega, fun p np => h1 _ _ (g1.newT el (by omega) np)⟩
  · exact h1.elim

/-! ### built-in functions -/
theorem G.ers {E : List Addr} {H : Hp} {L : List Item} : ∀ {os : List O} {vs : List V}, os.length = vs.length → G K E H (its os vs ++ L) → G K E H (its ((os.map O.er).map .sh) vs ++ L)
  | [], [], _, g => g
  | [], _ :: _, h, _ => by simp at h
  | _ :: _, [], h, _ => by simp at h
  | o :: os, v :: vs, h, g => by
    have g1 : G K E H ((some o, some v) :: (its os vs ++ L)) := g
    have g2 : G K E H (its os vs ++ ((some (.sh o.er), some v) :: L)) := g1.er.perm List.perm_middle.symm
    exact (G.ers (by simpa using h) g2).perm List.perm_middle
def mCB (f : List D → Option O) (ms : M (List O)) : M O := ms.bind fun os => ofOpt (f (os.map O.er))
def COk (K : PySem.W.Frag) (r : List V → Hp → VK → Prop) (f : List D → Option O) : Prop := ∀ (xs : List D) (o : O) (us : List V) (H : Hp) (L : List Item) (Q : VK), f xs = some o → xs.length = us.length → G K [] H (its (xs.map .sh) us ++ L) → (∀ w H', G K [] H' ((some o, some w) :: L) → Q w H') → r us H Q
theorem tCB_of {r : List V → Hp → VK → Prop} {f : List D → Option O} (hf : COk K r f) {σ : L2.St} {H : Hp} {Q : VK} (h : tM K mg W (mCB f mas) σ H Q) : tCB r (tMs K mg W mas) σ H Q := by
  obtain ⟨e, L, hl, g, h⟩ := h
  refine ⟨e, L, hl, g, h.bind.mono fun os e1 q1 ⟨_, h1⟩ vs H1 el g1 => ?_⟩
  cases hq : f (os.map O.er) with
  | none => rw [hq] at h1; exact h1.elim
  | some o => rw [hq] at h1; exact hf _ o vs H1 _ Q hq (by simpa using el) (g1.ers el) h1
theorem Len.cb {f : List D → Option O} (h : Len mas) : Len (mCB f mas) := h.bind fun _ => Len.opt
theorem se_callB {id : String} {r : List V → Hp → VK → Prop} {f : List D → Option O} {p : Pos} (hc : CallR X (.builtin id) r) (hf : COk X.K r f) (hg : Gl X x) (hm : X.mg x = none) (hv : bootBuiltins x = some (.builtin id)) (ha : SA X W (a :: es) mas) (hn : x ≠ "__name__" := by decide) (hdb : (x == ("__debug__" : Str)) = false := by decide)
    (he : starEach (a :: es) X.env = (false, eval a X.env) :: starEach es X.env := by rfl) (hpl : (backTo pos (starEach es X.env)).any (·.1) = false := by rfl) : SE X W (.Call (.Name x p) (a :: es) [] pos) (mCB f mas) :=
  ⟨PE.imp (pe_callB hc hg hm hv ha.pa hn hdb he hpl) fun _ _ _ h => tCB_of hf h, ha.len.cb⟩
theorem se_callTy {T : String} {r : List V → Hp → VK → Prop} {f : List D → Option O} {p : Pos} (hc : CallR X (.type T) r) (hf : COk X.K r f) (hg : Gl X x) (hm : X.mg x = none) (hv : bootBuiltins x = some (.type T)) (ha : SA X W (a :: es) mas) (hn : x ≠ "__name__" := by decide) (hdb : (x == ("__debug__" : Str)) = false := by decide)
    (he : starEach (a :: es) X.env = (false, eval a X.env) :: starEach es X.env := by rfl) (hpl : (backTo pos (starEach es X.env)).any (·.1) = false := by rfl) : SE X W (.Call (.Name x p) (a :: es) [] pos) (mCB f mas) :=
  ⟨PE.imp (pe_callTy hc hg hm hv ha.pa hn hdb he hpl) fun _ _ _ h => tCB_of hf h, ha.len.cb⟩
theorem CallR.or {f : Value} {r r' : List V → Hp → VK → Prop} (h : CallR X f r) (h' : CallR X f r') : CallR X f (fun xs H Q => r xs H Q ∨ r' xs H Q) := by
  intro pins s σ H xs us Q I rx q
  rcases q with q | q
  · exact h pins s σ H xs us Q I rx q
  · exact h' pins s σ H xs us Q I rx q
theorem COk.or {r r' : List V → Hp → VK → Prop} {f f' : List D → Option O} (h : COk K r f) (h' : COk K r' f') : COk K (fun xs H Q => r xs H Q ∨ r' xs H Q) (fun xs => match f xs with | some o => some o | none => f' xs) := by
  intro xs o us H L Q e el g q
  cases q1 : f xs with
  | some o' =>
    simp only [q1] at e
    exact .inl (h xs o us H L Q (by rw [q1]; exact e) el g q)
  | none =>
    simp only [q1] at e
    exact .inr (h' xs o us H L Q e el g q)
theorem one_us {us : List V} {x : D} (el : [x].length = us.length) : ∃ u, us = [u] := by
  match us, el with
  | [u], _ => exact ⟨u, rfl⟩
theorem two_us {us : List V} {x y : D} (el : [x, y].length = us.length) : ∃ u v, us = [u, v] := by
  match us, el with
  | [u, v], _ => exact ⟨u, v, rfl⟩
/-- one argument -/
def c1 (f : D → Option O) : List D → Option O
  | [x] => f x
  | _ => none
theorem c1_ok {r : List V → Hp → VK → Prop} {f : D → Option O} (h : ∀ x o u H L Q, f x = some o → G K [] H ((some (.sh x), some u) :: L) → (∀ w H', G K [] H' ((some o, some w) :: L) → Q w H') → r [u] H Q) : COk K r (c1 f) := by
  intro xs o us H L Q e el g q
  unfold c1 at e
  split at e
  · obtain ⟨u, rfl⟩ := one_us el
    exact h _ o u H L Q e g q
  · cases e
def D.len : D → Option Nat
  | .str s => if s.length ≤ sizeLine then some s.length else none
  | .lst xs => some xs.length
  | .tup xs => some xs.length
  | _ => none
theorem RepD.lenV {H : Hp} {Z : List Addr} {d : D} {v : V} {n : Nat} (h : RepD K H Z d v) (e : d.len = some n) : LenV K v H n := by
  unfold D.len at e
  split at e
  · rename_i s
    rw [show v = .str s from h]
    split at e
    · rename_i hc; cases e; exact ⟨hc, rfl⟩
    · cases e
  · cases e
    obtain ⟨a, vs, e, _, r, hs⟩ := h
    rw [e]
    exact .inl ⟨vs, r.sq, hs.len⟩
  · cases e
    obtain ⟨a, vs, e, _, r, hs⟩ := h
    rw [e]
    exact .inr ⟨vs, r.sq, hs.len⟩
  · cases e
def lenF : D → Option O := fun x => x.len.map fun (n : Nat) => O.sh (.int (n : Int))
theorem se_len {p : Pos} (hg : Gl X "len") (hm : X.mg "len" = none) (ha : SE X W a ma) (na : starEach [a] X.env = (false, eval a X.env) :: starEach [] X.env := by rfl) (hpl : (backTo pos (starEach [] X.env)).any (·.1) = false := by rfl) : SE X W (.Call (.Name "len" p) [a] [] pos) (mCB (c1 lenF) (mCons ma (M.ret []))) :=
  se_callB call_len (c1_ok fun x o u H L Q e g q => by
    obtain ⟨n, hn, rfl⟩ := Option.map_eq_some_iff.mp e
    exact ⟨u, n, rfl, g.rep.lenV hn, q _ H (g.tail.flat fun Z => rfl)⟩) hg hm PySem.boot_len (sa_cons ha sa_nil na) (by decide) (by decide) na hpl
/-- len of a name: what it holds stays as it is -/
def mLenNm (i : Nat) : M O := slotM i fun o => ofOpt (lenF o.er)
theorem se_lenNm (i : Nat) {y : Str} {p p' : Pos} (hg : Gl X "len") (hm : X.mg "len" = none) (hN : X.N[i]? = some y := by rfl) (hv : Vis X.env.scope y := by first | exact Or.inl rfl | exact Or.inr (Or.inl rfl) | exact Or.inr (Or.inr rfl)) (hd : (y == ("__debug__" : Str)) = false := by decide) (hcd : (y == ("__classdict__" : Str)) = false := by decide)
    (na : starEach [.Name y p'] X.env = (false, eval (.Name y p') X.env) :: starEach [] X.env := by rfl) (hpl : (backTo pos (starEach [] X.env)).any (·.1) = false := by rfl) : SE X W (.Call (.Name "len" p) [.Name y p'] [] pos) (mLenNm i) := by
  refine ⟨PE.imp (pe_callB call_len hg hm PySem.boot_len (pa_cons (pe_var hN hv hd hcd) pa_nil na) (by decide) (by decide) na hpl) fun σ H Q h => ?_, Len.slot fun _ => Len.opt⟩
  obtain ⟨e, L, hl, g, h⟩ := h
  obtain ⟨o, ho, h⟩ := Post.slot h
  obtain ⟨v, hv⟩ := slot_val ho hl g
  refine ⟨v, hv, ?_⟩
  unfold lenF at h
  cases hk : o.er.len with
  | none => rw [hk] at h; exact h.elim
  | some n => rw [hk] at h; exact ⟨v, n, rfl, (g.take ho hv).er.rep.lenV hk, h _ H (g.flat fun Z => rfl)⟩
end
end Ow

set_option Elab.async false
set_option linter.all false
set_option maxRecDepth 100000
set_option maxHeartbeats 1000000
/-! Ow6: targets, statements, loops. -/
namespace Ow
open PySem PySem.Spec PyProof.Rows L2

inductive Fl where
  | nx | rt (o : O) | bk | ct
def pin (io : List Nat) (σ σ' : L2.St) : Prop := ∀ i ∈ io, σ'[i]? = σ[i]?
theorem pin.refl {io : List Nat} {σ : L2.St} : pin io σ σ := fun _ _ => rfl
theorem pin.trans {io : List Nat} {σ σ' σ'' : L2.St} (a : pin io σ σ') (b : pin io σ' σ'') : pin io σ σ'' := fun i hi => (b i hi).trans (a i hi)
theorem pin.set {io : List Nat} {σ : L2.St} {i : Nat} {y : Option V} (h : i ∉ io) : pin io σ (σ.set i y) := fun j hj => by
  rw [List.getElem?_set_ne (fun e => h (by rw [e]; exact hj))]
/-- but for the slots ts -/
def agree (ts : List Nat) (σ σ' : L2.St) : Prop := ∀ j, j ∉ ts → σ'[j]? = σ[j]?
theorem agree.refl {ts : List Nat} {σ : L2.St} : agree ts σ σ := fun _ _ => rfl
theorem agree.trans {ts : List Nat} {σ σ' σ'' : L2.St} (a : agree ts σ σ') (b : agree ts σ' σ'') : agree ts σ σ'' := fun i hi => (b i hi).trans (a i hi)
theorem agree.mono {ts us : List Nat} {σ σ' : L2.St} (a : agree ts σ σ') (h : ∀ i ∈ ts, i ∈ us) : agree us σ σ' := fun i hi => a i fun z => hi (h i z)
theorem agree.set {ts : List Nat} {σ : L2.St} {i : Nat} {y : Option V} (h : i ∈ ts) : agree ts σ (σ.set i y) := fun j hj => by
  rw [List.getElem?_set_ne (fun e => hj (by rw [← e]; exact h))]
theorem agree.pin {ts io : List Nat} {σ σ' : L2.St} (a : agree ts σ σ') (h : ∀ i ∈ io, i ∉ ts) : pin io σ σ' := fun i hi => a i (h i hi)
/-- what is wanted behind a statement -/
def PostS (K : PySem.W.Frag) (mg : Str → Option Value) (W : WX) (io : List Nat) (σ : L2.St) (L : List Item) (D : Ends) (r : R Fl) : Prop :=
  match r with
  | .ok .nx e' => ∀ σ' H', σ'.length = σ.length → pin io σ σ' → G K [] H' (e'.zip σ' ++ L) → D.nx σ' H'
  | .ok .bk e' => ∀ σ' H', σ'.length = σ.length → pin io σ σ' → G K [] H' (e'.zip σ' ++ L) → D.bk σ' H'
  | .ok .ct e' => ∀ σ' H', σ'.length = σ.length → pin io σ σ' → G K [] H' (e'.zip σ' ++ L) → D.ct σ' H'
  | .ok (.rt o) e' => ∀ v σ' H', σ'.length = σ.length → pin io σ σ' → G K [] H' ((some o, some v) :: (e'.zip σ' ++ L)) → D.rt v H'
  | .exc c fs e' => ∀ σ', σ'.length = σ.length → pin io σ σ' → XOk K mg c fs (e'.zip σ' ++ L) fun C d H' => W C d σ' H'
  | .no => False
def tS (K : PySem.W.Frag) (mg : Str → Option Value) (W : WX) (io : List Nat) (m : M Fl) : TS := fun D σ H => ∃ (e : Sl) (L : List Item), e.length = σ.length ∧ G K [] H (e.zip σ ++ L) ∧ PostS K mg W io σ L D (m e)
structure SS (X : Cx) (W : WX) (io : List Nat) (st : Stmt) (m : M Fl) : Prop where
  ps : PS X st (tS X.K X.mg W io m)
  len : Len m
structure SB (X : Cx) (W : WX) (io : List Nat) (st : List Stmt) (m : M Fl) : Prop where
  ps : PSs X st (tS X.K X.mg W io m)
  len : Len m
section
variable {K : PySem.W.Frag} {mg : Str → Option Value} {W : WX} {io : List Nat} {σ σ1 : L2.St} {L : List Item} {D : Ends} {α : Type}
theorem PostS.bind {m : M α} {k : α → M Fl} {e : Sl} (h : PostS K mg W io σ L D (m.bind k e)) : Post K mg W σ L (m e) fun a e' => m e = .ok a e' ∧ PostS K mg W io σ L D (k a e') := by
  unfold M.bind at h
  unfold Post
  cases q : m e with
  | ok a e' => rw [q] at h; exact ⟨rfl, h⟩
  | exc c fs e' => rw [q] at h; exact h σ rfl pin.refl
  | no => rw [q] at h; exact h
/-- from a later state -/
theorem PostS.later {r : R Fl} (h : PostS K mg W io σ L D r) (hl : σ1.length = σ.length) (hp : pin io σ σ1) : PostS K mg W io σ1 L D r := by
  cases r with
  | ok f e' =>
    cases f with
    | nx => exact fun σ' H' h1 h2 g => h σ' H' (h1.trans hl) (hp.trans h2) g
    | bk => exact fun σ' H' h1 h2 g => h σ' H' (h1.trans hl) (hp.trans h2) g
    | ct => exact fun σ' H' h1 h2 g => h σ' H' (h1.trans hl) (hp.trans h2) g
    | rt o => exact fun v σ' H' h1 h2 g => h v σ' H' (h1.trans hl) (hp.trans h2) g
  | exc c fs e' => exact fun σ' h1 h2 => h σ' (h1.trans hl) (hp.trans h2)
  | no => exact h
theorem G.setSlot {E : List Addr} {H : Hp} {e : Sl} {i : Nat} {x' : Option O} {y' : Option V} (hi : i < e.length) (hl : e.length = σ.length) (g : G K E H ((x', y') :: (e.zip σ ++ L))) : G K E H ((e.set i x').zip (σ.set i y') ++ L) := by
  have h1 := List.getElem?_eq_getElem hi
  have hi' : i < σ.length := by omega
  have h2 := List.getElem?_eq_getElem hi'
  have g1 : G K E H (e.zip σ ++ ((x', y') :: L)) := g.perm List.perm_middle.symm
  have g2 := (g1.take h1 h2).tail
  exact G.put h1 h2 (g2.perm List.perm_middle)
end

/-! ### targets -/
def frz (b : Bool) (o : O) : O := if b then .sh o.er else o
theorem G.frz {K : PySem.W.Frag} {E : List Addr} {H : Hp} {L : List Item} {o : O} {v : V} {b : Bool} (g : G K E H ((some o, some v) :: L)) : G K E H ((some (frz b o), some v) :: L) := by
  cases b with
  | true => exact g.er
  | false => exact g
def tG (K : PySem.W.Frag) (ts : List Nat) (f : O → Sl → Option Sl) : TG := fun v σ H Q => ∃ (e : Sl) (L : List Item) (o : O), e.length = σ.length ∧ G K [] H ((some o, some v) :: (e.zip σ ++ L)) ∧
  ∃ e', f o e = some e' ∧ ∀ σ' H', σ'.length = σ.length → agree ts σ σ' → G K [] H' (e'.zip σ' ++ L) → Q σ' H'
structure SG (X : Cx) (ts : List Nat) (tg : Expr) (f : O → Sl → Option Sl) : Prop where
  pg : PG X tg (tG X.K ts f)
  len : ∀ o e e', f o e = some e' → e'.length = e.length
theorem PG.imp {X : Cx} {e : Expr} {t t' : TG} (h : PG X e t) (i : ∀ v σ H Q, t' v σ H Q → t v σ H Q) : PG X e t' := ⟨fun pins s σ H v u Q I r q => h.run pins s σ H v u Q I r (i v σ H Q q)⟩
def gSet (i : Nat) (b : Bool) (o : O) (e : Sl) : Option Sl := if i < e.length then some (e.set i (some (frz b o))) else none
section
variable {X : Cx} {W : WX} {io ts : List Nat} {a c : Expr} {ma : M O} {mt : M Bool} {m m1 m2 : M Fl} {pos : Pos} {x : Str} {st : Stmt} {rest body : List Stmt} {tg iter : Expr} {f : O → Sl → Option Sl}
theorem sg_name (i : Nat) (b : Bool) (hN : X.N.Nodup) (hi : X.N[i]? = some x) (hx : Loc X.env.scope x) (hf : X.fn x = true ∨ X.env.scope.names.lookup x = some .local := by first | exact .inl rfl | exact .inr rfl | assumption) : SG X [i] (.Name x pos) (gSet i b) := by
  refine ⟨PG.imp (pg_name hN hi hx hf) fun v σ H Q h => ?_, fun o e e' h => ?_⟩
  · obtain ⟨e, L, o, hl, g, e', h1, h2⟩ := h
    unfold gSet at h1
    split at h1
    · rename_i hlt
      cases h1
      refine h2 _ _ (by simp) (agree.set List.mem_cons_self) ?_
      exact G.setSlot hlt hl g.frz
    · cases h1
  · unfold gSet at h
    split at h
    · cases h; simp
    · cases h
/-- several names, one after another -/
def gMany : List (Nat × Bool) → List O → Sl → Option Sl
  | [], [], e => some e
  | (i, b) :: r, o :: os, e => (gSet i b o e).bind fun e1 => gMany r os e1
  | _, _, _ => none
theorem gSet_len {i : Nat} {b : Bool} {o : O} {e e' : Sl} (h : gSet i b o e = some e') : e'.length = e.length := by
  unfold gSet at h
  split at h
  · cases h; simp
  · cases h
theorem gMany_len : ∀ {r : List (Nat × Bool)} {os : List O} {e e' : Sl}, gMany r os e = some e' → e'.length = e.length
  | [], [], e, e', h => by cases h; rfl
  | [], _ :: _, e, e', h => by cases h
  | (i, b) :: r, [], e, e', h => by cases h
  | (i, b) :: r, o :: os, e, e', h => by
    unfold gMany at h
    cases q : gSet i b o e with
    | none => rw [q] at h; cases h
    | some e1 => rw [q] at h; exact (gMany_len h).trans (gSet_len q)
def tGs (K : PySem.W.Frag) (ts : List Nat) (r : List (Nat × Bool)) : TGs := fun vs σ H Q => ∃ (e : Sl) (L : List Item) (os : List O), e.length = σ.length ∧ os.length = vs.length ∧ G K [] H (its os vs ++ (e.zip σ ++ L)) ∧
  ∃ e', gMany r os e = some e' ∧ ∀ σ' H', σ'.length = σ.length → agree ts σ σ' → G K [] H' (e'.zip σ' ++ L) → Q σ' H'
structure SGs (X : Cx) (ts : List Nat) (tgs : List Expr) (r : List (Nat × Bool)) : Prop where
  pg : PGs X tgs (tGs X.K ts r)
theorem PGs.imp {X : Cx} {e : List Expr} {t t' : TGs} (h : PGs X e t) (i : ∀ v σ H Q, t' v σ H Q → t v σ H Q) : PGs X e t' := ⟨fun pins s σ H v u Q I r q => h.run pins s σ H v u Q I r (i v σ H Q q)⟩
theorem sgs_nil : SGs X [] [] [] := by
  refine ⟨PGs.imp pgs_nil fun vs σ H Q h => ?_⟩
  obtain ⟨e, L, os, hl, el, g, e', h1, h2⟩ := h
  match os, vs, el, h1, g with
  | [], [], _, h1, g => cases h1; exact ⟨rfl, h2 σ H rfl agree.refl g⟩
theorem sgs_cons {tgs : List Expr} {r : List (Nat × Bool)} (i : Nat) (b : Bool) (h : SG X [i] tg (gSet i b)) (hr : SGs X ts tgs r) (hs : (assignEach (tg :: tgs) X.env).map (·.2) = assign tg X.env :: (assignEach tgs X.env).map (·.2) := by rfl) : SGs X (i :: ts) (tg :: tgs) ((i, b) :: r) := by
  refine ⟨PGs.imp (pgs_cons h.pg hr.pg hs) fun vs σ H Q h => ?_⟩
  obtain ⟨e, L, os, hl, el, g, e', h1, h2⟩ := h
  match os, vs, el, h1, g with
  | o :: os, v :: vs, el, h1, g =>
    unfold gMany at h1
    cases q : gSet i b o e with
    | none => rw [q] at h1; cases h1
    | some e1 =>
      rw [q] at h1
      refine ⟨v, vs, rfl, e, its os vs ++ L, o, hl, ?_, e1, q, fun σ1 H1 l1 p1 g1 => ?_⟩
      · refine G.perm (show G X.K [] H ((some o, some v) :: (its os vs ++ (e.zip σ ++ L))) from g) (List.Perm.cons _ ?_)
        exact pswap _ _ _
      · refine ⟨e1, L, os, ((gSet_len q).trans hl).trans l1.symm, by simpa using el, g1.perm (pswap _ _ _), e', h1, fun σ' H' l2 p2 g2 => ?_⟩
        exact h2 σ' H' (l2.trans l1) ((p1.mono fun j hj => by rw [List.mem_singleton] at hj; rw [hj]; exact List.mem_cons_self).trans (p2.mono fun j hj => List.mem_cons_of_mem _ hj)) g2
/-- the items of a tuple -/
def O.parts : O → Option (List O)
  | .tup os => some os
  | .sh (.tup ds) => some (ds.map .sh)
  | _ => none
def gTupF (r : List (Nat × Bool)) (o : O) (e : Sl) : Option Sl := o.parts.bind fun os => gMany r os e
theorem G.parts {K : PySem.W.Frag} {H : Hp} {L : List Item} {o : O} {v : V} {os : List O} (g : G K [] H ((some o, some v) :: L)) (e : o.parts = some os) : ∃ a vs, v = .ref a ∧ SqT K H a vs ∧ os.length = vs.length ∧ G K [] H (its os vs ++ L) := by
  unfold O.parts at e
  split at e
  · cases e
    exact g.openT
  · cases e
    obtain ⟨a, vs, e1, hT, n, el, g1⟩ := g.tupI
    refine ⟨a, vs, e1, hT, by simpa using el, ?_⟩
    exact (g1.perm List.perm_middle).tail
  · cases e
theorem sg_tup {es : List Expr} {k : Nat} {r : List (Nat × Bool)} {n : Nat} (hc : X.calm = true) (h : SGs X ts es r) (hr : r.length = n := by rfl) (hn : (assignEach es X.env).length = n := by rfl) (hst : (assignEach es X.env).findIdx? (·.1) = none := by rfl) : SG X ts (.Tuple es k pos) (gTupF r) := by
  refine ⟨PG.imp (pg_tup hc h.pg hn hst) fun v σ H Q h => ?_, fun o e e' h => ?_⟩
  · obtain ⟨e, L, o, hl, g, e', h1, h2⟩ := h
    unfold gTupF at h1
    cases q : o.parts with
    | none => rw [q] at h1; cases h1
    | some os =>
      rw [q] at h1
      have h1 : gMany r os e = some e' := h1
      obtain ⟨a, vs, e1, hT, el, g1⟩ := g.parts q
      have len_of : ∀ {r : List (Nat × Bool)} {os : List O} {e e' : Sl}, gMany r os e = some e' → os.length = r.length := by
        intro r
        induction r with
        | nil =>
          intro os e e' h
          cases os with
          | nil => rfl
          | cons o os => cases h
        | cons p r ih =>
          intro os e e' h
          obtain ⟨i, b⟩ := p
          cases os with
          | nil => cases h
          | cons o os =>
            unfold gMany at h
            cases q : gSet i b o e with
            | none => rw [q] at h; cases h
            | some e1 => rw [q] at h; rw [List.length_cons, List.length_cons, ih h]
      exact ⟨a, vs, e1, hT, by rw [← el, len_of h1, hr], e, L, os, hl, el, g1, e', h1, h2⟩
  · unfold gTupF at h
    cases q : o.parts with
    | none => rw [q] at h; cases h
    | some os => rw [q] at h; exact gMany_len (r := r) (os := os) h

/-! ### statements -/
def gM (f : O → Sl → Option Sl) (o : O) : M Fl := fun e => match f o e with
  | some e' => .ok .nx e'
  | none => .no
theorem Len.gM (h : ∀ o e e', f o e = some e' → e'.length = e.length) (o : O) : Len (gM f o) := by
  constructor
  · intro e a e' q
    unfold Ow.gM at q
    split at q
    · rename_i e1 h1; cases q; exact h _ _ _ h1
    · cases q
  · intro e c fs e' q
    unfold Ow.gM at q
    split at q <;> cases q
def mAsg (ma : M O) (f : O → Sl → Option Sl) : M Fl := ma.bind fun o => gM f o
theorem asg_of {K : PySem.W.Frag} {mg : Str → Option Value} {D : Ends} {σ : L2.St} {H : Hp} (h : tS K mg W io (mAsg ma f) D σ H) (la : Len ma) (hio : ∀ i ∈ io, i ∉ ts) : tM K mg W ma σ H (fun v H1 => tG K ts f v σ H1 D.nx) := by
  obtain ⟨e, L, hl, g, h⟩ := h
  refine ⟨e, L, hl, g, h.bind.mono fun o e1 q1 ⟨_, h1⟩ v H1 g1 => ?_⟩
  unfold gM at h1
  cases q : f o e1 with
  | none => rw [q] at h1; exact h1.elim
  | some e2 =>
    rw [q] at h1
    exact ⟨e1, L, o, (la.1 _ _ _ q1).trans hl, g1, e2, q, fun σ' H' l2 p2 g2 => h1 σ' H' l2 (p2.pin hio) g2⟩
theorem ss_asg (ha : SE X W a ma) (hg : SG X ts tg f) (hio : ∀ i ∈ io, i ∉ ts := by decide) (hs : swapsWithSole [tg] a pos.line X.env = pure false := by rfl) (hw : swappedStores [tg] a X.env = pure none := by rfl)
    (h1 : (assignEach [tg] X.env).map (·.2) = [assign tg X.env] := by rfl) : SS X W io (.Assign [tg] a pos) (mAsg ma f) :=
  ⟨PS.imp (ps_asg ha.pe hg.pg hs hw h1) fun _ _ _ h => asg_of h ha.len hio, ha.len.bind fun o => Len.gM hg.len o⟩
/-- name = value -/
theorem ss_set {y : Str} {p : Pos} (i : Nat) (b : Bool) (hN : X.N.Nodup) (hi : X.N[i]? = some y) (hx : Loc X.env.scope y) (ha : SE X W a ma) (hio : i ∉ io := by decide) (hs : swapsWith a (some (.Name y p)) pos.line X.env = pure false := by rfl)
    (hf : X.fn y = true ∨ X.env.scope.names.lookup y = some .local := by first | exact .inl rfl | exact .inr rfl | assumption) : SS X W io (.Assign [.Name y p] a pos) (mAsg ma (gSet i b)) := by
  have sg : SG X [i] (.Name y p) (gSet i b) := sg_name i b hN hi hx hf
  refine ⟨PS.imp (ps_set hN hi hx ha.pe hs hf) fun D σ H h => ?_, ha.len.bind fun o => Len.gM sg.len o⟩
  obtain ⟨e, L, hl, g, h⟩ := h
  refine ⟨e, L, hl, g, h.bind.mono fun o e1 q1 ⟨_, h1⟩ v H1 g1 => ?_⟩
  unfold gM gSet at h1
  have l1 := (ha.len.1 _ _ _ q1).trans hl
  by_cases hlt : i < e1.length
  · rw [if_pos hlt] at h1
    exact h1 _ H1 (by simp) (pin.set hio) (G.setSlot hlt l1 g1.frz)
  · rw [if_neg hlt] at h1
    exact h1.elim
/-- a, b = x, y with plain local names -/
def mPar (i j : Nat) (bi bj : Bool) (ms : M (List O)) : M Fl := ms.bind fun os => match os with
  | [o1, o2] => gM (fun o e => (gSet i bi o1 e).bind fun e1 => gSet j bj o2 e1) o1
  | _ => M.no
theorem ss_par {mas : M (List O)} (i j : Nat) (bi bj : Bool) {x y : Str} {a b : Expr} {px py pt : Pos} {kt k2 pt2} (hc : X.calm = true) (hN : X.N.Nodup) (hi : X.N[i]? = some x) (hj : X.N[j]? = some y) (hij : i ≠ j)
    (hx : X.env.scope.names.lookup x = some .local) (hy : X.env.scope.names.lookup y = some .local) (ha : SA X W [a, b] mas)
    (hw : swappedStores [.Tuple [.Name x px, .Name y py] kt pt] (.Tuple [a, b] k2 pt2) X.env = pure (some [x, y]))
    (hioi : i ∉ io := by decide) (hioj : j ∉ io := by decide)
    (hs : swapsWithSole [.Tuple [.Name x px, .Name y py] kt pt] (.Tuple [a, b] k2 pt2) pos.line X.env = pure false := by rfl) : SS X W io (.Assign [.Tuple [.Name x px, .Name y py] kt pt] (.Tuple [a, b] k2 pt2) pos) (mPar i j bi bj mas) := by
  refine ⟨PS.imp (ps_par hc hN hi hj hij hx hy ha.pa hw hs) fun D σ H h => ?_, ha.len.bind fun os => ?_⟩
  · obtain ⟨e, L, hl, g, h⟩ := h
    refine ⟨e, L, hl, g, h.bind.mono fun os e1 q1 ⟨_, h1⟩ vs H1 el g1 => ?_⟩
    have l1 := (ha.len.1 _ _ _ q1).trans hl
    match os, vs, el, h1, g1 with
    | [o1, o2], [v1, v2], _, h1, g1 =>
      refine ⟨v1, v2, rfl, ?_⟩
      have h1 : PostS X.K X.mg W io σ L D (gM (fun o e => (gSet i bi o1 e).bind fun e1 => gSet j bj o2 e1) o1 e1) := h1
      unfold gM at h1
      cases qa : gSet i bi o1 e1 with
      | none => simp only [qa] at h1; exact h1.elim
      | some e2 =>
        cases qb : gSet j bj o2 e2 with
        | none => simp only [qa, Option.bind_some, qb] at h1; exact h1.elim
        | some e3 =>
          simp only [qa, Option.bind_some, qb] at h1
          unfold gSet at qa qb
          split at qa
          · rename_i hlt
            cases qa
            split at qb
            · rename_i hlt2
              cases qb
              have ga : G X.K [] H1 ((some o2, some v2) :: ((e1.set i (some (frz bi o1))).zip (σ.set i (some v1)) ++ L)) := by
                have g0 : G X.K [] H1 ((some o1, some v1) :: (some o2, some v2) :: (e1.zip σ ++ L)) := g1
                have g2 : G X.K [] H1 ((some o1, some v1) :: (e1.zip σ ++ ((some o2, some v2) :: L))) := g0.perm (List.Perm.cons _ List.perm_middle.symm)
                exact (G.setSlot hlt l1 g2.frz).perm List.perm_middle
              exact h1 _ H1 (by simp) ((pin.set hioi).trans (pin.set hioj)) (G.setSlot hlt2 (by simp [l1]) ga.frz)
            · cases qb
          · cases qa
    | [], vs, el, h1, g1 => exact h1.elim
    | [_], vs, el, h1, g1 => exact h1.elim
    | _ :: _ :: _ :: _, vs, el, h1, g1 => exact h1.elim
    | [_, _], [], el, h1, g1 => simp at el
    | [_, _], [_], el, h1, g1 => simp at el
    | [_, _], _ :: _ :: _ :: _, el, h1, g1 => simp at el
  · match os with
    | [o1, o2] =>
      refine Len.gM (f := fun o e => (gSet i bi o1 e).bind fun e1 => gSet j bj o2 e1) (fun o e e' h => ?_) o1
      cases qa : gSet i bi o1 e with
      | none => simp [qa] at h
      | some e2 =>
        simp only [qa, Option.bind_some] at h
        exact (gSet_len h).trans (gSet_len qa)
    | [] => exact Len.no
    | [_] => exact Len.no
    | _ :: _ :: _ :: _ => exact Len.no
def mExpr (ma : M O) : M Fl := ma.bind fun _ => M.ret .nx
theorem ss_expr (ha : SE X W a ma) (hs : swapsWith a none pos.line X.env = pure false := by rfl) : SS X W io (.Expr a pos) (mExpr ma) := by
  refine ⟨PS.imp (ps_expr ha.pe hs) fun D σ H h => ?_, ha.len.bind fun _ => Len.ret⟩
  obtain ⟨e, L, hl, g, h⟩ := h
  exact ⟨e, L, hl, g, h.bind.mono fun o e1 q1 ⟨_, h1⟩ v H1 g1 => h1 σ H1 rfl pin.refl g1.tail⟩
def mRet (ma : M O) : M Fl := ma.bind fun o => M.ret (.rt o)
theorem ss_ret (ha : SE X W a ma) : SS X W io (.Return (some a) pos) (mRet ma) := by
  refine ⟨PS.imp (ps_ret ha.pe) fun D σ H h => ?_, ha.len.bind fun _ => Len.ret⟩
  obtain ⟨e, L, hl, g, h⟩ := h
  exact ⟨e, L, hl, g, h.bind.mono fun o e1 q1 ⟨_, h1⟩ v H1 g1 => h1 v σ H1 rfl pin.refl g1⟩
theorem ss_retN : SS X W io (.Return none pos) (M.ret (.rt (.sh .non))) := by
  refine ⟨PS.imp ps_retN fun D σ H h => ?_, Len.ret⟩
  obtain ⟨e, L, hl, g, h⟩ := h
  exact h .non σ H rfl pin.refl (g.flat fun Z => rfl)
theorem ss_pass : SS X W io (.Pass pos) (M.ret .nx) := by
  refine ⟨PS.imp ps_pass fun D σ H h => ?_, Len.ret⟩
  obtain ⟨e, L, hl, g, h⟩ := h
  exact h σ H rfl pin.refl g
theorem ss_break : SS X W io (.Break pos) (M.ret .bk) := by
  refine ⟨PS.imp ps_break fun D σ H h => ?_, Len.ret⟩
  obtain ⟨e, L, hl, g, h⟩ := h
  exact h σ H rfl pin.refl g
theorem ss_continue : SS X W io (.Continue pos) (M.ret .ct) := by
  refine ⟨PS.imp ps_continue fun D σ H h => ?_, Len.ret⟩
  obtain ⟨e, L, hl, g, h⟩ := h
  exact h σ H rfl pin.refl g
/-- one statement, then the others -/
def mSeq (m1 m2 : M Fl) : M Fl := m1.bind fun f => match f with
  | .nx => m2
  | f => M.ret f
theorem Len.seq (h1 : Len m1) (h2 : Len m2) : Len (mSeq m1 m2) := h1.bind fun f => by
  cases f <;> first | exact h2 | exact Len.ret
theorem seq_of {K : PySem.W.Frag} {mg : Str → Option Value} {D : Ends} {σ : L2.St} {H : Hp} (h : tS K mg W io (mSeq m1 m2) D σ H) (l1 : Len m1) : tSeq (tS K mg W io m1) (tS K mg W io m2) D σ H := by
  obtain ⟨e, L, hl, g, h⟩ := h
  refine ⟨e, L, hl, g, ?_⟩
  unfold mSeq M.bind at h
  cases q : m1 e with
  | ok f e1 =>
    rw [q] at h
    have le := (l1.1 _ _ _ q).trans hl
    cases f with
    | nx => exact fun σ' H' hl' hp g' => ⟨e1, L, le.trans hl'.symm, g', PostS.later h hl' hp⟩
    | rt o => exact h
    | bk => exact h
    | ct => exact h
  | exc c fs e1 => rw [q] at h; exact h
  | no => rw [q] at h; exact h
theorem sb_nil : SB X W io [] (M.ret .nx) := by
  refine ⟨PSs.imp pss_nil fun D σ H h => ?_, Len.ret⟩
  obtain ⟨e, L, hl, g, h⟩ := h
  exact h σ H rfl pin.refl g
theorem sb_one (h : SS X W io st m) : SB X W io [st] m := ⟨pss_one h.ps, h.len⟩
theorem sb_cons (h1 : SS X W io st m1) (h2 : SB X W io rest m2) : SB X W io (st :: rest) (mSeq m1 m2) :=
  ⟨PSs.imp (pss_cons h1.ps h2.ps) fun _ _ _ h => seq_of h h1.len, h1.len.seq h2.len⟩
theorem ss_if {bodyT bodyF : List Stmt} (hc : ST X W c mt) (h1 : SB X W io bodyT m1) (h2 : SB X W io bodyF m2) : SS X W io (.If c bodyT bodyF pos) (mIf mt m1 m2) := by
  refine ⟨PS.imp (ps_if hc.pt h1.ps h2.ps) fun D σ H h => ?_, hc.len.mif h1.len h2.len⟩
  obtain ⟨e, L, hl, g, h⟩ := h
  refine ⟨e, L, hl, g, PostS.bind (m := mt) h |>.mono fun k e1 q1 ⟨_, h1⟩ H1 g1 => ?_⟩
  cases k with
  | true => exact ⟨e1, L, (hc.len.1 _ _ _ q1).trans hl, g1, h1⟩
  | false => exact ⟨e1, L, (hc.len.1 _ _ _ q1).trans hl, g1, h1⟩
/-- while, at most n turns -/
def mWhile (mt : M Bool) (mb : M Fl) : Nat → M Fl
  | 0 => M.no
  | n + 1 => mt.bind fun k => if k then mb.bind fun f => match f with
      | .nx => mWhile mt mb n
      | .ct => mWhile mt mb n
      | .bk => M.ret .nx
      | .rt o => M.ret (.rt o)
    else M.ret .nx
theorem Len.while_ (ht : Len mt) (hb : Len m) : ∀ n, Len (mWhile mt m n)
  | 0 => Len.no
  | n + 1 => ht.bind fun k => Len.ite (hb.bind fun f => by cases f <;> first | exact Len.while_ ht hb n | exact Len.ret) Len.ret
theorem ss_while (n : Nat) (hp : PassesOwn (model X.prog X.w) X.A X.env X.xe) (hc : ST X W c mt) (hb : SB X W io body m) : SS X W io (.While c body [] pos) (mWhile mt m n) := by
  refine ⟨PS.imp (ps_while hp hc.pt hb.ps) fun D σ H h => ?_, Len.while_ hc.len hb.len n⟩
  obtain ⟨e, L, hl, g, h⟩ := h
  refine ⟨fun k σ1 H1 => ∃ e1, e1.length = σ1.length ∧ σ1.length = σ.length ∧ pin io σ σ1 ∧ G X.K [] H1 (e1.zip σ1 ++ L) ∧ PostS X.K X.mg W io σ L D (mWhile mt m k e1), ⟨n, e, hl, rfl, pin.refl, g, h⟩, ?_⟩
  rintro k σ1 H1 ⟨e1, hl1, hl0, hp1, g1, h1⟩
  cases k with
  | zero => exact h1.elim
  | succ k =>
    have h1' := PostS.later h1 hl0 hp1
    unfold mWhile at h1'
    refine ⟨e1, L, hl1, g1, PostS.bind h1' |>.mono fun t e2 q2 ⟨_, h2⟩ H2 g2 => ?_⟩
    have l2 := (hc.len.1 _ _ _ q2).trans hl1
    cases t with
    | false =>
      show D.nx σ1 H2
      have h2 : PostS X.K X.mg W io σ1 L D (R.ok Fl.nx e2) := h2
      exact h2 σ1 H2 rfl pin.refl g2
    | true =>
      show ∃ N : L2.St → Hp → Prop, (∀ σ' H', N σ' H' → ∃ m', m' < k + 1 ∧ _) ∧ tS X.K X.mg W io m { D with nx := N, ct := N, bk := D.nx } σ1 H2
      have h2 : PostS X.K X.mg W io σ1 L D ((m.bind fun f => match f with | .nx => mWhile mt m k | .ct => mWhile mt m k | .bk => M.ret .nx | .rt o => M.ret (.rt o)) e2) := h2
      refine ⟨fun σ' H' => ∃ e', e'.length = σ'.length ∧ σ'.length = σ.length ∧ pin io σ σ' ∧ G X.K [] H' (e'.zip σ' ++ L) ∧ PostS X.K X.mg W io σ L D (mWhile mt m k e'), fun σ' H' hw => ⟨k, Nat.lt_succ_self k, hw⟩, e2, L, l2, g2, ?_⟩
      -- the post of the loop, told from the loop's begin: it is the same for both
      unfold M.bind at h2
      cases q : m e2 with
      | ok f e3 =>
        have l3 := (hb.len.1 _ _ _ q).trans l2
        rw [q] at h2
        -- what is wanted from the loop's begin
        have up : ∀ f', (match f with | .nx => mWhile mt m k | .ct => mWhile mt m k | .bk => M.ret .nx | .rt o => M.ret (.rt o)) = f' → PostS X.K X.mg W io σ L D (f' e3) := by
          intro f' ef
          have hh : mWhile mt m (k + 1) e1 = f' e3 := by
            show (mt.bind fun k' => _) e1 = _
            unfold M.bind
            rw [q2]
            show (m.bind fun f => _) e2 = _
            unfold M.bind
            rw [q]
            exact congrFun ef e3
          rw [← hh]
          exact h1
        cases f with
        | nx => exact fun σ' H' hl' hp' g' => ⟨e3, l3.trans hl'.symm, hl'.trans hl0, hp1.trans hp', g', up _ rfl⟩
        | ct => exact fun σ' H' hl' hp' g' => ⟨e3, l3.trans hl'.symm, hl'.trans hl0, hp1.trans hp', g', up _ rfl⟩
        | bk => exact h2
        | rt o => exact h2
      | exc c fs e3 => rw [q] at h2; exact h2
      | no => rw [q] at h2; exact h2
end
end Ow

set_option Elab.async false
set_option linter.all false
set_option maxRecDepth 100000
set_option maxHeartbeats 1000000
/-! Ow7: what a for or a comprehension walks; for; list comprehensions. -/
namespace Ow
open PySem PySem.Spec PyProof.Rows L2

/-- the iterator J gives ds, one after another, while the items of keep are good -/
structure ItOk (K : PySem.W.Frag) (J : It) (ds : List D) (keep : List Item) : Prop where
  len : ds.length ≤ sizeLine
  stop : ∀ H L, G K [] H (keep ++ L) → J.stop ds.length H
  go : ∀ i H L, i < ds.length → G K [] H (keep ++ L) → J.go i H
  yld : ∀ i H x H' L d, ds[i]? = some d → G K [] H (keep ++ L) → J.yld i H x H' → G K [] H' ((some (.sh d), some x) :: (keep ++ L))
def tI (K : PySem.W.Frag) (mg : Str → Option Value) (W : WX) (m : M (List D)) : TI := fun σ H R => ∃ (e : Sl) (L : List Item), e.length = σ.length ∧ G K [] H (e.zip σ ++ L) ∧
  Post K mg W σ L (m e) fun ds e' => ∀ J keep H', ItOk K J ds keep → G K [] H' (keep ++ (e'.zip σ ++ L)) → R J H'
structure SI (X : Cx) (W : WX) (tg iter : Expr) (m : M (List D)) : Prop where
  pi : PI X tg iter (tI X.K X.mg W m)
  len : Len m
theorem PI.imp {X : Cx} {tg e : Expr} {t t' : TI} (h : PI X tg e t) (i : ∀ σ H Q, t' σ H Q → t σ H Q) : PI X tg e t' := ⟨fun pins s σ H Q I q => h.run pins s σ H Q I (i σ H Q q)⟩
theorem PI.or {X : Cx} {tg e : Expr} {t t' : TI} (h : PI X tg e t) (h' : PI X tg e t') : PI X tg e (fun σ H Q => t σ H Q ∨ t' σ H Q) := ⟨fun pins s σ H Q I q => q.elim (h.run pins s σ H Q I) (h'.run pins s σ H Q I)⟩
section
variable {K : PySem.W.Frag}
theorem it_list {a : Addr} {xs : List D} {keep : List Item} (hz : xs.length ≤ sizeLine) (hk : keep = [(some (.sh (.lst xs)), some (.ref a))]) : ItOk K (Itl K a) xs keep := by
  subst hk
  refine ⟨hz, fun H L g => ?_, fun i H L hi g => ?_, fun i H x H' L d hd g y => ?_⟩
  · obtain ⟨b, vs, e, hH, n, el, _⟩ := G.lst g
    cases e
    exact ⟨vs, .inl (.inl hH), by omega⟩
  · obtain ⟨b, vs, e, hH, n, el, _⟩ := G.lst g
    cases e
    have : i < vs.length := by omega
    exact ⟨vs, vs[i], .inl (.inl hH), List.getElem?_eq_getElem this⟩
  · obtain ⟨e, y⟩ := y
    subst e
    obtain ⟨b, vs, e, hH, n, el, g1⟩ := G.lstI g
    cases e
    have hx := y vs (.inl (.inl hH))
    have hm : ∀ {xs : List D} {vs : List V} {i : Nat} {d : D} {x : V} {L : List Item}, xs[i]? = some d → vs[i]? = some x → xs.length = vs.length → G K [] H' (its (xs.map .sh) vs ++ L) → G K [] H' ((some (.sh d), some x) :: L) := by
      intro xs
      induction xs with
      | nil => intro vs i d x L h; simp at h
      | cons y xs ih =>
        intro vs i d x L h1 h2 h3 g
        cases vs with
        | nil => simp at h3
        | cons w vs =>
          cases i with
          | zero =>
            simp at h1 h2
            subst h1 h2
            have g' : G K [] H' ((some (.sh y), some w) :: (its (xs.map .sh) vs ++ L)) := g
            exact (g'.perm List.perm_middle.symm).right
          | succ i =>
            have g' : G K [] H' ((some (.sh y), some w) :: (its (xs.map .sh) vs ++ L)) := g
            exact ih (by simpa using h1) (by simpa using h2) (by simpa using h3) g'.tail
    exact hm hd hx el g1
theorem it_tup {a : Addr} {xs : List D} {keep : List Item} (hz : xs.length ≤ sizeLine) (hk : keep = [(some (.sh (.tup xs)), some (.ref a))]) : ItOk K (Itt K a) xs keep := by
  subst hk
  refine ⟨hz, fun H L g => ?_, fun i H L hi g => ?_, fun i H x H' L d hd g y => ?_⟩
  · obtain ⟨b, vs, e, hT, n, el, _⟩ := G.tupl g
    cases e
    exact ⟨vs, hT, by omega⟩
  · obtain ⟨b, vs, e, hT, n, el, _⟩ := G.tupl g
    cases e
    have : i < vs.length := by omega
    exact ⟨vs, vs[i], hT, List.getElem?_eq_getElem this⟩
  · obtain ⟨e, y⟩ := y
    subst e
    obtain ⟨b, vs, e, hT, n, el, F, hs, hl, nd⟩ := G.tupl g
    cases e
    obtain ⟨w, hw, r⟩ := hs.get hd
    have hx := y vs hT
    rw [hw] at hx
    cases hx
    obtain ⟨F', h1, h2, nd'⟩ := G.off g
    obtain ⟨a', vs', e', n', r', hs'⟩ := id h1
    cases e'
    obtain ⟨w', hw', rw'⟩ := hs'.get hd
    have hx' := y vs' r'.sq
    rw [hw'] at hx'
    cases hx'
    exact .of rw' ⟨[], F', ⟨rfl, h1⟩, h2, rfl⟩ nd'
theorem it_range {lo : Int} {n : Nat} (hz : n ≤ sizeLine) : ItOk K (Itr lo n) ((List.range n).map fun (i : Nat) => D.int (lo + i)) [] := by
  refine ⟨by simpa using hz, fun H L g => ?_, fun i H L hi g => ?_, fun i H x H' L d hd g y => ?_⟩
  · simp; exact Nat.le_refl n
  · show i < n; simpa using hi
  · obtain ⟨e, y⟩ := y
    subst e y
    rw [List.getElem?_map] at hd
    obtain ⟨j, hj, rfl⟩ := Option.map_eq_some_iff.mp hd
    obtain ⟨h1, h2⟩ := List.getElem?_eq_some_iff.mp hj
    rw [List.getElem_range] at h2
    subst h2
    exact G.flat g fun Z => rfl
def signsD (s : Str) : List D := s.cps.toList.map fun c => D.str ⟨#[c]⟩
theorem it_str {s : Str} (hz : s.length ≤ sizeLine) : ItOk K (Its s) (signsD s) [] := by
  refine ⟨by show (signsD s).length ≤ sizeLine; unfold signsD; rw [List.length_map, Array.length_toList]; exact hz, fun H L g => ?_, fun i H L hi g => ?_, fun i H x H' L d hd g y => ?_⟩
  · show s.cps.size ≤ _; simp [signsD]
  · show i < s.cps.size; simpa [signsD] using hi
  · obtain ⟨e, c, hc, y⟩ := y
    subst e y
    unfold signsD at hd
    rw [List.getElem?_map] at hd
    obtain ⟨c', hj, rfl⟩ := Option.map_eq_some_iff.mp hd
    rw [Array.getElem?_toList, hc] at hj
    cases hj
    exact G.flat g fun Z => rfl
/-- pairs of a row with its places -/
def enumD (xs : List D) : List D := (List.range xs.length).zipWith (fun (i : Nat) d => D.tup [.int i, d]) xs
theorem it_enum {a : Addr} {xs : List D} (hz : xs.length ≤ sizeLine) : ItOk K (Ite K a) (enumD xs) [(some (.sh (.lst xs)), some (.ref a))] := by
  have base := it_list (K := K) (a := a) (xs := xs) hz rfl
  have ln : (enumD xs).length = xs.length := by simp [enumD]
  refine ⟨by omega, fun H L g => ?_, fun i H L hi g => ?_, fun i H x H' L d hd g y => ?_⟩
  · obtain ⟨b, vs, e, hH, n, el, _⟩ := G.lst g
    cases e
    exact ⟨vs, .inl (.inl hH), by omega⟩
  · obtain ⟨b, vs, e, hH, n, el, _⟩ := G.lst g
    cases e
    have : i < vs.length := by omega
    exact ⟨vs, vs[i], .inl (.inl hH), List.getElem?_eq_getElem this⟩
  · obtain ⟨T, x', rfl, np, rfl, y⟩ := y
    have hi : i < xs.length := by
      have := (List.getElem?_eq_some_iff.mp hd).1
      omega
    have hx : xs[i]? = some xs[i] := List.getElem?_eq_getElem hi
    have ed : d = .tup [.int (i : Nat), xs[i]] := by
      unfold enumD at hd
      rw [List.getElem?_zipWith] at hd
      simp [hi] at hd
      exact hd.symm
    subst ed
    have g1 := base.yld i H x' H L _ hx g ⟨rfl, y⟩
    have g2 : G K [] H (its ([D.int (i : Nat), xs[i]].map .sh) [.int (i : Nat), x'] ++ ([(some (.sh (.lst xs)), some (.ref a))] ++ L)) := g1.flat fun Z => rfl
    exact g2.newTs rfl (by show 2 ≤ sizeLine; decide) np
end
section
variable {X : Cx} {W : WX} {a b : Expr} {ma mb : M O} {tg : Expr} {pos p : Pos}
/-- what a value gives when it is walked -/
def D.walk : D → Option (List D)
  | .lst xs => some xs
  | .tup xs => some xs
  | .str s => if s.length ≤ sizeLine then some (signsD s) else none
  | _ => none
def mWalk (ma : M O) : M (List D) := ma.bind fun o => ofG o.er.walk
theorem Len.walk {ma : M O} (h : Len ma) : Len (mWalk ma) := h.bind fun _ => Len.ofG
theorem si_val (ha : SE X W a ma) : SI X W tg a (mWalk ma) := by
  refine ⟨PI.imp (PI.or (pi_list ha.pe) (PI.or (pi_tup ha.pe) (pi_str ha.pe))) fun σ H R h => ?_, ha.len.walk⟩
  obtain ⟨e, L, hl, g, h⟩ := h
  have hb := h.bind
  cases q : ma e with
  | no => rw [q] at hb; exact hb.elim
  | exc c fs e1 =>
    refine .inl ⟨e, L, hl, g, ?_⟩
    rw [q] at hb ⊢
    exact hb
  | ok o e1 =>
    rw [q] at hb
    obtain ⟨_, h1⟩ := (show _ ∧ _ from hb)
    cases hw : o.er with
    | non => rw [hw] at h1; exact h1.elim
    | bl _ => rw [hw] at h1; exact h1.elim
    | int _ => rw [hw] at h1; exact h1.elim
    | gl _ => rw [hw] at h1; exact h1.elim
    | dct _ _ => rw [hw] at h1; exact h1.elim
    | lst xs =>
      rw [hw] at h1
      refine .inl ⟨e, L, hl, g, ?_⟩
      rw [q]
      intro v H1 g1
      have g2 := g1.er
      rw [hw] at g2
      obtain ⟨p, vs, rfl, hH, n, el, _⟩ := g2.lst
      exact ⟨p, rfl, ⟨vs, .inl (.inl hH)⟩, h1 _ _ H1 (it_list (by omega) rfl) g2⟩
    | tup xs =>
      rw [hw] at h1
      refine .inr (.inl ⟨e, L, hl, g, ?_⟩)
      rw [q]
      intro v H1 g1
      have g2 := g1.er
      rw [hw] at g2
      obtain ⟨p, vs, rfl, hT, n, el, _⟩ := g2.tupl
      exact ⟨p, rfl, ⟨vs, hT⟩, h1 _ _ H1 (it_tup (by omega) rfl) g2⟩
    | str s =>
      rw [hw] at h1
      have h1 : Post X.K X.mg W σ L (ofG (if s.length ≤ sizeLine then some (signsD s) else none) e1) _ := h1
      have hz : s.length ≤ sizeLine := by
        apply Classical.byContradiction
        intro hz
        rw [if_neg hz] at h1
        exact h1
      rw [if_pos hz] at h1
      refine .inr (.inr ⟨e, L, hl, g, ?_⟩)
      rw [q]
      intro v H1 g1
      have g2 := g1.er
      rw [hw] at g2
      exact ⟨s, g2.rep, h1 _ [] H1 (it_str hz) g2.tail⟩
def rangeD (lo hi : Int) : Option (List D) := if -(2 ^ 62) ≤ lo ∧ lo < 2 ^ 62 ∧ -(2 ^ 62) ≤ hi ∧ hi < 2 ^ 62 ∧ (hi - lo).toNat ≤ sizeLine then some ((List.range (hi - lo).toNat).map fun (i : Nat) => D.int (lo + i)) else none
def mRange1 (ma : M O) : M (List D) := ma.bind fun o => ofG (o.er.asI.bind fun hi => rangeD 0 hi)
def mRange2 (ma mb : M O) : M (List D) := ma.bind fun o => mb.bind fun u => ofG (o.er.asI.bind fun lo => u.er.asI.bind fun hi => rangeD lo hi)
theorem rangeD_some {lo hi : Int} {ds : List D} (h : rangeD lo hi = some ds) : (-(2 ^ 62) ≤ lo ∧ lo < 2 ^ 62 ∧ -(2 ^ 62) ≤ hi ∧ hi < 2 ^ 62 ∧ (hi - lo).toNat ≤ sizeLine) ∧ ds = (List.range (hi - lo).toNat).map fun (i : Nat) => D.int (lo + i) := by
  unfold rangeD at h
  split at h
  · rename_i hc; cases h; exact ⟨hc, rfl⟩
  · cases h
theorem si_range1 (hg : Gl X "range") (hm : X.mg "range" = none) (ha : SE X W a ma) (na : starEach [a] X.env = (false, eval a X.env) :: starEach [] X.env := by rfl) (hs : starEach [a] X.env = [(false, eval a X.env)] := by rfl) : SI X W tg (.Call (.Name "range" p) [a] [] pos) (mRange1 ma) := by
  refine ⟨PI.imp (pi_range1 hg hm (sa_cons ha sa_nil na).pa hs) fun σ H R h => ?_, ha.len.bind fun _ => Len.ofG⟩
  obtain ⟨e, L, hl, g, h⟩ := h
  refine ⟨e, L, hl, g, ?_⟩
  unfold mRange1 at h
  unfold mCons
  have hb := h.bind
  unfold M.bind
  cases q : ma e with
  | no => rw [q] at hb; exact hb.elim
  | exc c fs e1 => rw [q] at hb; exact hb
  | ok o e1 =>
    rw [q] at hb
    obtain ⟨_, h1⟩ := (show _ ∧ _ from hb)
    refine fun (vs : List V) (H1 : Hp) (el : [o].length = vs.length) g1 => ?_
    match vs, el, g1 with
    | [v], _, g1 =>
      have g2 : G X.K [] H1 ((some o, some v) :: (e1.zip σ ++ L)) := g1
      cases hi : o.er.asI with
      | none => rw [hi] at h1; exact h1.elim
      | some j =>
        rw [hi] at h1
        cases hr : rangeD 0 j with
        | none => simp only [Option.bind_some, hr] at h1; exact h1.elim
        | some ds =>
          simp only [Option.bind_some, hr] at h1
          obtain ⟨hc, hds⟩ := rangeD_some hr
          have ev := g2.er.rep.asI hi
          subst ev
          refine ⟨j, rfl, hc.2.2.1, hc.2.2.2.1, h1 _ [] H1 ?_ g2.tail⟩
          have hz := hc.2.2.2.2
          rw [Int.sub_zero] at hz
          rw [hds, Int.sub_zero]
          exact it_range hz
theorem si_range2 (hg : Gl X "range") (hm : X.mg "range" = none) (ha : SE X W a ma) (hb : SE X W b mb) (na : starEach [a, b] X.env = (false, eval a X.env) :: starEach [b] X.env := by rfl) (nb : starEach [b] X.env = (false, eval b X.env) :: starEach [] X.env := by rfl) (hs : starEach [a, b] X.env = [(false, eval a X.env), (false, eval b X.env)] := by rfl) (hs2 : starEach [b] X.env = [(false, eval b X.env)] := by rfl) : SI X W tg (.Call (.Name "range" p) [a, b] [] pos) (mRange2 ma mb) := by
  refine ⟨PI.imp (pi_range2 hg hm (sa_cons ha (sa_cons hb sa_nil nb) na).pa hs hs2) fun σ H R h => ?_, ha.len.bind fun _ => hb.len.bind fun _ => Len.ofG⟩
  obtain ⟨e, L, hl, g, h⟩ := h
  refine ⟨e, L, hl, g, ?_⟩
  unfold mRange2 at h
  unfold mCons
  have h1 := h.bind
  unfold M.bind
  cases q : ma e with
  | no => rw [q] at h1; exact h1.elim
  | exc c fs e1 => rw [q] at h1; exact h1
  | ok o e1 =>
    rw [q] at h1
    obtain ⟨_, h1⟩ := (show _ ∧ _ from h1)
    have h2 := h1.bind
    simp only
    cases q2 : mb e1 with
    | no => rw [q2] at h2; exact h2.elim
    | exc c fs e2 => rw [q2] at h2; exact h2
    | ok u e2 =>
      rw [q2] at h2
      obtain ⟨_, h2⟩ := (show _ ∧ _ from h2)
      refine fun (vs : List V) (H1 : Hp) (el : [o, u].length = vs.length) g1 => ?_
      match vs, el, g1 with
      | [v, w], _, g1 =>
        have g2 : G X.K [] H1 ((some o, some v) :: (some u, some w) :: (e2.zip σ ++ L)) := g1
        cases hi : o.er.asI with
        | none => rw [hi] at h2; exact h2.elim
        | some i =>
          rw [hi] at h2
          cases hj : u.er.asI with
          | none => simp only [Option.bind_some, hj] at h2; exact h2.elim
          | some j =>
            simp only [Option.bind_some, hj] at h2
            cases hr : rangeD i j with
            | none => simp only [hr] at h2; exact h2.elim
            | some ds =>
              simp only [hr] at h2
              obtain ⟨hc, hds⟩ := rangeD_some hr
              have ev := g2.er.rep.asI hi
              have ew := g2.tail.er.rep.asI hj
              subst ev ew
              refine ⟨i, j, rfl, ⟨hc.1, hc.2.1, hc.2.2.1, hc.2.2.2.1⟩, h2 _ [] H1 ?_ g2.tail.tail⟩
              rw [hds]
              exact it_range hc.2.2.2.2
/-! ### for -/
/-- each of some things: the target is set, the body run -/
def mFor (f : O → Sl → Option Sl) (mb : M Fl) : List D → M Fl
  | [] => M.ret .nx
  | d :: ds => (gM f (.sh d)).bind fun _ => mb.bind fun fl => match fl with
      | .nx => mFor f mb ds
      | .ct => mFor f mb ds
      | .bk => M.ret .nx
      | .rt o => M.ret (.rt o)
theorem Len.for_ {f : O → Sl → Option Sl} {mb : M Fl} (hf : ∀ o e e', f o e = some e' → e'.length = e.length) (hb : Len mb) : ∀ ds, Len (mFor f mb ds)
  | [] => Len.ret
  | d :: ds => (Len.gM hf _).bind fun _ => hb.bind fun fl => by cases fl <;> first | exact Len.for_ hf hb ds | exact Len.ret
variable {io ts : List Nat} {iter : Expr} {body : List Stmt} {mi : M (List D)} {m : M Fl} {f : O → Sl → Option Sl}
theorem ss_for (hp : PassesOwn (model X.prog X.w) X.A X.env X.xe) (hc : X.calm = true) (hi : SI X W tg iter mi) (hg : SG X ts tg f) (hb : SB X W io body m) (hio : ∀ i ∈ io, i ∉ ts := by decide) (hs : ∀ x, foldedSetIterable iter X.env x = pure x := by intro _; rfl) :
    SS X W io (.For tg iter body [] pos) (mi.bind fun ds => mFor f m ds) := by
  refine ⟨PS.imp (ps_for hp hc hi.pi hg.pg hb.ps hs) fun D σ H h => ?_, hi.len.bind fun ds => Len.for_ hg.len hb.len ds⟩
  obtain ⟨e, L, hl, g, h⟩ := h
  refine ⟨e, L, hl, g, h.bind.mono fun ds e0 q0 ⟨_, h0⟩ J keep H0 ok g0 => ?_⟩
  have l0 := (hi.len.1 _ _ _ q0).trans hl
  refine ⟨fun i k σ1 H1 => ∃ e1, k = ds.length - i ∧ i ≤ ds.length ∧ e1.length = σ1.length ∧ σ1.length = σ.length ∧ pin io σ σ1 ∧ G X.K [] H1 (keep ++ (e1.zip σ1 ++ L)) ∧ PostS X.K X.mg W io σ L D (mFor f m (ds.drop i) e1), ⟨_, e0, rfl, Nat.zero_le _, l0, rfl, pin.refl, g0, h0⟩, ?_⟩
  rintro i k σ1 H1 ⟨e1, rfl, hi1, hl1, hl0, hp1, g1, h1⟩
  by_cases hlt : i < ds.length
  · right
    refine ⟨ok.go i H1 _ hlt g1, ?_⟩
    have hd : ds.drop i = ds[i] :: ds.drop (i + 1) := List.drop_eq_getElem_cons hlt
    rw [hd] at h1
    have h1' := PostS.later h1 hl0 hp1
    refine ⟨fun σ' H' => ∃ e', e'.length = σ'.length ∧ σ'.length = σ.length ∧ pin io σ σ' ∧ G X.K [] H' (keep ++ (e'.zip σ' ++ L)) ∧ PostS X.K X.mg W io σ L D (mFor f m (ds.drop (i + 1)) e'), fun σ' H' ⟨e', a1, a2, a3, a4, a5⟩ => ⟨ds.length - (i + 1), by omega, e', rfl, hlt, a1, a2, a3, a4, a5⟩, fun x H2 y => ?_⟩
    have g2 := ok.yld i H1 x H2 _ _ (List.getElem?_eq_getElem hlt) g1 y
    -- the target
    unfold mFor at h1'
    have h2 := PostS.bind h1'
    unfold gM at h2
    cases q : f (.sh ds[i]) e1 with
    | none => rw [q] at h2; exact h2.elim
    | some e2 =>
      rw [q] at h2
      have l2 := (hg.len _ _ _ q).trans hl1
      refine ⟨e1, keep ++ L, .sh ds[i], hl1, ?_, e2, q, fun σ2 H3 lσ2 p2' g3 => ?_⟩
      · exact g2.perm (List.Perm.cons _ (pswap _ _ _))
      · have p2 := p2'.pin hio
        obtain ⟨_, h3⟩ := (show _ ∧ _ from h2)
        have h3' := PostS.later h3 lσ2 p2
        refine ⟨e2, keep ++ L, l2.trans lσ2.symm, g3, ?_⟩
        -- the body, then the others
        unfold M.bind at h3'
        cases qb : m e2 with
        | no => rw [qb] at h3'; exact h3'.elim
        | exc c fs e3 =>
          rw [qb] at h3'
          exact fun σ' hl' hp' => XOk.more (h3' σ' hl' hp')
        | ok fl e3 =>
          rw [qb] at h3'
          have l3 : e3.length = σ.length := ((hb.len.1 _ _ _ qb).trans l2).trans hl0
          have pσ2 : pin io σ σ2 := hp1.trans p2
          have up : ∀ f', (match fl with | .nx => mFor f m (ds.drop (i + 1)) | .ct => mFor f m (ds.drop (i + 1)) | .bk => M.ret .nx | .rt o => M.ret (.rt o)) = f' → PostS X.K X.mg W io σ L D (f' e3) := by
            intro f' ef
            have hh : mFor f m (ds[i] :: ds.drop (i + 1)) e1 = f' e3 := by
              show ((gM f (.sh ds[i])).bind fun _ => _) e1 = _
              unfold M.bind gM
              rw [q]
              show (m.bind fun fl => _) e2 = _
              unfold M.bind
              rw [qb]
              exact congrFun ef e3
            rw [← hh]
            exact h1
          cases fl with
          | nx => exact fun σ' H' hl' hp' g' => ⟨e3, l3.trans ((hl'.trans (lσ2.trans hl0)).symm), (hl'.trans (lσ2.trans hl0)), pσ2.trans hp', g'.perm (pswap _ _ _), up _ rfl⟩
          | ct => exact fun σ' H' hl' hp' g' => ⟨e3, l3.trans ((hl'.trans (lσ2.trans hl0)).symm), (hl'.trans (lσ2.trans hl0)), pσ2.trans hp', g'.perm (pswap _ _ _), up _ rfl⟩
          | bk =>
            have h4 : PostS X.K X.mg W io σ L D (.ok .nx e3) := up _ rfl
            exact fun σ' H' hl' hp' g' => h4 σ' H' (hl'.trans (lσ2.trans hl0)) (pσ2.trans hp') ((g'.perm (pswap _ _ _)).right)
          | rt o =>
            have h4 : PostS X.K X.mg W io σ L D (.ok (.rt o) e3) := up _ rfl
            refine fun v σ' H' hl' hp' g' => h4 v σ' H' (hl'.trans (lσ2.trans hl0)) (pσ2.trans hp') ?_
            exact (g'.perm ((List.Perm.cons _ (pswap _ _ _)).trans List.perm_middle.symm)).right
  · left
    have ei : i = ds.length := by omega
    subst ei
    refine ⟨ok.stop H1 _ g1, ?_⟩
    rw [List.drop_length] at h1
    have h1 : PostS X.K X.mg W io σ L D (.ok .nx e1) := h1
    exact h1 σ1 H1 hl0 hp1 g1.right
end
end Ow

set_option Elab.async false
set_option linter.all false
set_option maxRecDepth 100000
set_option maxHeartbeats 1000000
/-! Ow8: list comprehensions; appending, popping. -/
namespace Ow
open PySem PySem.Spec PyProof.Rows L2

abbrev W0 : WX := fun _ _ _ _ => False
/-- one more at the end of an owned list -/
theorem G.push {K : PySem.W.Frag} {H : Hp} {L : List Item} {o : O} {y v : V} {os : List O} (g : G K [] H ((some o, some y) :: (some (.lst os), some v) :: L)) :
    ∃ D acc, v = .ref D ∧ H D = some (.lst acc) ∧ acc.length = os.length ∧ (acc.length < sizeLine → G K [] (upd H D (.lst (acc ++ [y]))) ((some (.lst (os ++ [o])), some v) :: L)) := by
  obtain ⟨D, acc, e, n, hD, el, g1⟩ := (g.perm (List.Perm.swap _ _ _)).openL
  subst e
  refine ⟨D, acc, rfl, hD, el.symm, fun hz => ?_⟩
  have g2 : G K [D] (upd H D (.lst (acc ++ [y]))) (its (os ++ [o]) (acc ++ [y]) ++ L) := by
    rw [its_append el]
    have p : (its os acc ++ ((some o, some y) :: L)) = its os acc ++ its [o] [y] ++ L := by simp [its_cons]; rfl
    rw [← p]
    exact g1.write
  exact g2.closeL (by simp [el]) (by rw [List.length_append, List.length_singleton]; omega) upd_same

/-! ### the block's own slots -/
def wipeE (e : Sl) : List Nat → Sl
  | [] => e
  | v :: vs => (wipeE e vs).set v none
def restE (e : Sl) : Sl → List Nat → Sl
  | eb, [] => eb
  | eb, v :: vs => restE e (eb.set v (e.getD v none)) vs
def saved (e : Sl) (σ : L2.St) : List Nat → List Item
  | [] => []
  | v :: vs => (e.getD v none, σ.getD v none) :: saved e σ vs
theorem wipeE_len (e : Sl) : ∀ vs, (wipeE e vs).length = e.length
  | [] => rfl
  | v :: vs => by unfold wipeE; rw [List.length_set, wipeE_len e vs]
theorem restE_len (e : Sl) : ∀ (vs : List Nat) (eb : Sl), (restE e eb vs).length = eb.length
  | [], eb => rfl
  | v :: vs, eb => by unfold restE; rw [restE_len e vs, List.length_set]
theorem wipeE_out (e : Sl) : ∀ {vs : List Nat} {i : Nat}, i ∉ vs → (wipeE e vs)[i]? = e[i]?
  | [], _, _ => rfl
  | v :: vs, i, h => by
    unfold wipeE
    rw [List.getElem?_set_ne (fun q => h (by rw [← q]; exact List.mem_cons_self)), wipeE_out e fun z => h (List.mem_cons_of_mem _ z)]
section
variable {K : PySem.W.Frag} {E : List Addr} {H : Hp} {L : List Item} {e eb : Sl} {σ σ2 : L2.St}
theorem G.wipe (hl : e.length = σ.length) : ∀ {vs : List Nat}, vs.Nodup → (∀ v ∈ vs, v < e.length) → G K E H (e.zip σ ++ L) → G K E H ((wipeE e vs).zip (wipe σ vs) ++ (saved e σ vs ++ L))
  | [], _, _, g => g
  | v :: vs, nd, hv, g => by
    rw [List.nodup_cons] at nd
    have ih := G.wipe hl nd.2 (fun u hu => hv u (List.mem_cons_of_mem _ hu)) g
    have hlt := hv v List.mem_cons_self
    have h1 : (wipeE e vs)[v]? = some e[v] := by rw [wipeE_out e nd.1]; exact List.getElem?_eq_getElem hlt
    have hlt2 : v < σ.length := by omega
    have h2 : (L2.wipe σ vs)[v]? = some σ[v] := by rw [wipe_out nd.1]; exact List.getElem?_eq_getElem hlt2
    have g1 := ih.take h1 h2
    have g2 : G K E H ((none, none) :: (((wipeE e vs).set v none).zip (L2.wipe σ vs) ++ ((e[v], σ[v]) :: (saved e σ vs ++ L)))) := (g1.perm List.perm_middle.symm).noval
    have h1' : (wipeE e vs)[v]? = some e[v] := h1
    have g3 := G.put h1' h2 g2
    have e1 : e.getD v none = e[v] := by rw [List.getD_eq_getElem?_getD, List.getElem?_eq_getElem hlt]; rfl
    have e2 : σ.getD v none = σ[v] := by rw [List.getD_eq_getElem?_getD, List.getElem?_eq_getElem hlt2]; rfl
    show G K E H (((wipeE e vs).set v none).zip ((L2.wipe σ vs).set v none) ++ ((e.getD v none, σ.getD v none) :: (saved e σ vs ++ L)))
    rw [e1, e2]
    exact g3
theorem G.rest (hl : e.length = σ.length) : ∀ {vs : List Nat} {eb : Sl}, eb.length = σ.length → vs.Nodup → (∀ v ∈ vs, v < e.length) → G K E H (eb.zip (L2.wipe σ vs) ++ (saved e σ vs ++ L)) → G K E H ((restE e eb vs).zip σ ++ L)
  | [], eb, _, _, _, g => g
  | v :: vs, eb, hb, nd, hv, g => by
    rw [List.nodup_cons] at nd
    have hlt := hv v List.mem_cons_self
    have hlt2 : v < σ.length := by omega
    have g1 : G K E H ((e.getD v none, σ.getD v none) :: (eb.zip (L2.wipe σ (v :: vs)) ++ (saved e σ vs ++ L))) := g.perm List.perm_middle
    have g2 := G.setSlot (i := v) (by omega) (by rw [wipe_length]; exact hb) g1
    have e2 : (L2.wipe σ (v :: vs)).set v (σ.getD v none) = L2.wipe σ vs := by
      show ((L2.wipe σ vs).set v none).set v (σ.getD v none) = _
      rw [List.set_set]
      refine set_id ?_
      rw [wipe_out nd.1, List.getElem?_eq_getElem hlt2, List.getD_eq_getElem?_getD, List.getElem?_eq_getElem hlt2]
      rfl
    rw [e2] at g2
    exact G.rest (vs := vs) (eb := eb.set v (e.getD v none)) hl (by simpa using hb) nd.2 (fun u hu => hv u (List.mem_cons_of_mem _ hu)) g2
theorem wipe_agree {vs : List Nat} (hl : σ2.length = σ.length) (a : agree vs (wipe σ vs) σ2) : wipe σ2 vs = wipe σ vs := by
  refine List.ext_getElem? fun j => ?_
  by_cases hj : j ∈ vs
  · have z : ∀ (σ : L2.St), (wipe σ vs)[j]? = if j < σ.length then some none else none := by
      intro τ
      have aux : ∀ {vs : List Nat}, j ∈ vs → (wipe τ vs)[j]? = if j < τ.length then some none else none := by
        intro vs
        induction vs with
        | nil => intro h; cases h
        | cons v vs ih =>
          intro h
          show ((wipe τ vs).set v none)[j]? = _
          by_cases hv : v = j
          · subst hv
            by_cases hlt : v < τ.length
            · rw [List.getElem?_set_self (by rw [wipe_length]; exact hlt), if_pos hlt]
            · rw [List.getElem?_eq_none (by rw [List.length_set, wipe_length]; omega), if_neg hlt]
          · rw [List.getElem?_set_ne hv]
            exact ih ((List.mem_cons.mp h).resolve_left fun q => hv q.symm)
      exact aux hj
    rw [z, z, hl]
  · rw [wipe_out hj, a j hj]
end

/-! ### [elt for target in iter if test] -/
def mLoop (vs : List Nat) (b : Bool) (f : O → Sl → Option Sl) (mt : M Bool) (me : M O) : List D → List O → M (List O)
  | [], acc => M.ret acc
  | d :: ds, acc => fun e => match f (.sh d) e with
    | none => .no
    | some e1 => match mt e1 with
      | .ok true e2 => match me e2 with
        | .ok o e3 => mLoop vs b f mt me ds (acc ++ [frz b o]) (wipeE e3 vs)
        | _ => .no
      | .ok false e2 => mLoop vs b f mt me ds acc (wipeE e2 vs)
      | _ => .no
def mCompK (vs : List Nat) (b : Bool) (f : O → Sl → Option Sl) (mt : M Bool) (me : M O) (ds : List D) : M O := fun e => match mLoop vs b f mt me ds [] (wipeE e vs) with
  | .ok acc e2 => if vs.all (fun v => decide (v < e.length)) then .ok (.lst acc) (restE e e2 vs) else .no
  | _ => .no
/-- b: whether what is made is shared at once -/
def mComp (vs : List Nat) (b : Bool) (mi : M (List D)) (f : O → Sl → Option Sl) (mt : M Bool) (me : M O) : M O := mi.bind fun ds => mCompK vs b f mt me ds
section
variable {vs ts : List Nat} {b : Bool} {f : O → Sl → Option Sl} {mt : M Bool} {me : M O} {mi : M (List D)}
theorem Len.loop (hf : ∀ o e e', f o e = some e' → e'.length = e.length) (ht : Len mt) (he : Len me) : ∀ (ds : List D) (acc : List O), Len (mLoop vs b f mt me ds acc)
  | [], acc => Len.ret
  | d :: ds, acc => by
    constructor
    · intro e a e' h
      unfold mLoop at h
      split at h
      · cases h
      · rename_i e1 h1
        split at h
        · rename_i e2 h2
          split at h
          · rename_i o e3 h3
            exact ((Len.loop hf ht he ds _).1 _ _ _ h).trans ((wipeE_len _ _).trans ((he.1 _ _ _ h3).trans ((ht.1 _ _ _ h2).trans (hf _ _ _ h1))))
          · cases h
        · rename_i e2 h2
          exact ((Len.loop hf ht he ds _).1 _ _ _ h).trans ((wipeE_len _ _).trans ((ht.1 _ _ _ h2).trans (hf _ _ _ h1)))
        · cases h
    · intro e c fs e' h
      unfold mLoop at h
      split at h
      · cases h
      · rename_i e1 h1
        split at h
        · rename_i e2 h2
          split at h
          · rename_i o e3 h3
            exact ((Len.loop hf ht he ds _).2 _ _ _ _ h).trans ((wipeE_len _ _).trans ((he.1 _ _ _ h3).trans ((ht.1 _ _ _ h2).trans (hf _ _ _ h1))))
          · cases h
        · rename_i e2 h2
          exact ((Len.loop hf ht he ds _).2 _ _ _ _ h).trans ((wipeE_len _ _).trans ((ht.1 _ _ _ h2).trans (hf _ _ _ h1)))
        · cases h
theorem Len.compK (hf : ∀ o e e', f o e = some e' → e'.length = e.length) (ht : Len mt) (he : Len me) (ds : List D) : Len (mCompK vs b f mt me ds) := by
  constructor
  · intro e a e' h
    unfold mCompK at h
    split at h
    · rename_i acc e2 h2
      split at h
      · cases h
        rw [restE_len]
        exact ((Len.loop hf ht he ds []).1 _ _ _ h2).trans (wipeE_len _ _)
      · cases h
    · cases h
  · intro e c fs e' h
    unfold mCompK at h
    split at h
    · rename_i acc e2 h2
      split at h
      · cases h
      · cases h
    · cases h
theorem Len.comp (hi : Len mi) (hf : ∀ o e e', f o e = some e' → e'.length = e.length) (ht : Len mt) (he : Len me) : Len (mComp vs b mi f mt me) := hi.bind fun ds => Len.compK hf ht he ds
variable {X : Cx} {W : WX} {tg iter elt : Expr} {ifs : List Expr} {scope : Scope} {own : List (Str × Nat)} {pos : Pos}
/-- a clause's tests -/
structure STs (X : Cx) (W : WX) (es : List Expr) (m : M Bool) : Prop where
  pt : PTs X es (tB X.K X.mg W m)
  len : Len m
theorem PTs.imp {X : Cx} {e : List Expr} {t t' : TT} (h : PTs X e t) (i : ∀ σ H Q, t' σ H Q → t σ H Q) : PTs X e t' := ⟨fun pins s σ H Q I q => h.run pins s σ H Q I (i σ H Q q)⟩
theorem sts_nil : STs X W [] (M.ret true) := by
  refine ⟨PTs.imp pts_nil fun σ H Q h => ?_, Len.ret⟩
  obtain ⟨e, L, hl, g, h⟩ := h
  exact h H g
theorem sts_one {c : Expr} (h : ST X W c mt) : STs X W [c] mt := ⟨pts_one h.pt, h.len⟩
theorem lc_of {K : PySem.W.Frag} {mg : Str → Option Value} {σ : L2.St} {H : Hp} {Q : VK} (h : tM K mg W (mComp vs b mi f mt me) σ H Q) (li : Len mi) (lf : ∀ o e e', f o e = some e' → e'.length = e.length) (lt : Len mt) (le : Len me) (nd : vs.Nodup) (hts : ∀ i ∈ ts, i ∈ vs) :
    tLc (tI K mg W mi) (tG K ts f) (tB K mg W0 mt) (tM K mg W0 me) vs σ H Q := by
  obtain ⟨e, L, hl, g, h⟩ := h
  refine ⟨e, L, hl, g, h.bind.mono fun ds e0 q0 ⟨_, h0⟩ J keep H0 ok g0 D nD => ?_⟩
  have l0 := (li.1 _ _ _ q0).trans hl
  unfold mCompK at h0
  cases ql : mLoop vs b f mt me ds [] (wipeE e0 vs) with
  | no => rw [ql] at h0; exact h0.elim
  | exc c fs e2 =>
    rw [ql] at h0
    exact h0.elim
  | ok acc0 eE =>
    rw [ql] at h0
    simp only at h0
    have hvs : vs.all (fun v => decide (v < e0.length)) = true := by
      apply Classical.byContradiction
      intro z
      rw [if_neg z] at h0
      exact h0
    rw [if_pos hvs] at h0
    have hv : ∀ v ∈ vs, v < e0.length := fun v hv => of_decide_eq_true (List.all_eq_true.mp hvs v hv)
    have lE : eE.length = σ.length := ((Len.loop lf lt le ds []).1 _ _ _ ql).trans ((wipeE_len _ _).trans l0)
    -- the block's begin
    have gw : G K [] H0 ((wipeE e0 vs).zip (wipe σ vs) ++ (saved e0 σ vs ++ (keep ++ L))) := G.wipe l0 nd hv (g0.perm (pswap _ _ _))
    have gD : G K [] (upd H0 D (.lst [])) ((some (.lst []), some (.ref D)) :: ((wipeE e0 vs).zip (wipe σ vs) ++ (saved e0 σ vs ++ (keep ++ L)))) :=
      G.newL (os := []) (vs := []) gw rfl (Nat.zero_le _) nD
    refine ⟨fun i k H1 => ∃ (e1 : Sl) (acc : List O), k = ds.length - i ∧ i ≤ ds.length ∧ acc.length ≤ i ∧ e1.length = σ.length ∧ mLoop vs b f mt me (ds.drop i) acc e1 = .ok acc0 eE ∧
      G K [] H1 ((some (.lst acc), some (.ref D)) :: (e1.zip (wipe σ vs) ++ (saved e0 σ vs ++ (keep ++ L)))), ⟨_, wipeE e0 vs, [], rfl, Nat.zero_le _, Nat.le_refl _, (wipeE_len _ _).trans l0, ql, gD⟩, ?_⟩
    rintro i k H1 ⟨e1, acc, rfl, hi1, ha, l1, q1, g1⟩
    have front : ∀ {A B C : List Item} {j : Item}, (j :: (A ++ (B ++ (keep ++ C)))).Perm (keep ++ (j :: (A ++ (B ++ C)))) := by
      intro A B C j
      have p1 : (A ++ (B ++ (keep ++ C))).Perm (keep ++ (A ++ (B ++ C))) := (List.Perm.append_left A (pswap B keep C)).trans (pswap A keep (B ++ C))
      exact (List.Perm.cons _ p1).trans List.perm_middle.symm
    by_cases hlt : i < ds.length
    · right
      refine ⟨ok.go i H1 _ hlt (g1.perm front), ?_⟩
      have hd : ds.drop i = ds[i] :: ds.drop (i + 1) := List.drop_eq_getElem_cons hlt
      rw [hd] at q1
      unfold mLoop at q1
      refine ⟨fun H' => ∃ (e1 : Sl) (acc : List O), acc.length ≤ i + 1 ∧ e1.length = σ.length ∧ mLoop vs b f mt me (ds.drop (i + 1)) acc e1 = .ok acc0 eE ∧
        G K [] H' ((some (.lst acc), some (.ref D)) :: (e1.zip (wipe σ vs) ++ (saved e0 σ vs ++ (keep ++ L)))), fun H' ⟨e', acc', a1, a2, a3, a4⟩ => ⟨ds.length - (i + 1), by omega, e', acc', rfl, hlt, a1, a2, a3, a4⟩, fun x H2 y => ?_⟩
      have g2 := ok.yld i H1 x H2 _ _ (List.getElem?_eq_getElem hlt) (g1.perm front) y
      cases qf : f (.sh ds[i]) e1 with
      | none => rw [qf] at q1; cases q1
      | some e2 =>
        rw [qf] at q1
        simp only at q1
        have l2 := (lf _ _ _ qf).trans l1
        -- the target is set
        have g2' : G K [] H2 ((some (O.sh ds[i]), some x) :: (e1.zip (wipe σ vs) ++ ((some (.lst acc), some (.ref D)) :: (saved e0 σ vs ++ (keep ++ L))))) :=
          g2.perm (List.Perm.cons _ (front.symm.trans List.perm_middle.symm))
        refine ⟨e1, (some (.lst acc), some (.ref D)) :: (saved e0 σ vs ++ (keep ++ L)), .sh ds[i], by rw [wipe_length]; exact l1, g2', e2, qf, fun σ2 H3' lσ2 ag g3 => ?_⟩
        have lσ2' : σ2.length = σ.length := by rw [lσ2, wipe_length]
        have hw : wipe σ2 vs = wipe σ vs := wipe_agree lσ2' (ag.mono hts)
        refine ⟨hw, e2, (some (.lst acc), some (.ref D)) :: (saved e0 σ vs ++ (keep ++ L)), l2.trans lσ2'.symm, g3, ?_⟩
        -- a turn's end
        have fin : ∀ {e4 : Sl} {H4 : Hp} {acc' : List O}, e4.length = σ.length → acc'.length ≤ i + 1 → mLoop vs b f mt me (ds.drop (i + 1)) acc' (wipeE e4 vs) = .ok acc0 eE →
            G K [] H4 ((some (.lst acc'), some (.ref D)) :: (e4.zip σ2 ++ (saved e0 σ vs ++ (keep ++ L)))) →
            ∃ (e1 : Sl) (acc : List O), acc.length ≤ i + 1 ∧ e1.length = σ.length ∧ mLoop vs b f mt me (ds.drop (i + 1)) acc e1 = .ok acc0 eE ∧
              G K [] H4 ((some (.lst acc), some (.ref D)) :: (e1.zip (wipe σ vs) ++ (saved e0 σ vs ++ (keep ++ L)))) := fun {e4 H4 acc'} l4 a4 q4 g4 => by
          refine ⟨wipeE e4 vs, acc', a4, (wipeE_len _ _).trans l4, q4, ?_⟩
          have hv4 : ∀ v ∈ vs, v < e4.length := fun v h => by rw [l4, ← l0]; exact hv v h
          have g5 := G.wipe (l4.trans lσ2'.symm) nd hv4 (g4.perm List.perm_middle.symm)
          rw [hw] at g5
          have g6 : G K [] H4 ((wipeE e4 vs).zip (wipe σ vs) ++ ((some (.lst acc'), some (.ref D)) :: (saved e0 σ vs ++ (keep ++ L)))) := (g5.perm (pswap _ _ _)).right
          exact g6.perm List.perm_middle
        cases qt : mt e2 with
        | no => rw [qt] at q1; cases q1
        | exc c fs e3 => rw [qt] at q1; cases q1
        | ok t e3 =>
          rw [qt] at q1
          have l3 := (lt.1 _ _ _ qt).trans l2
          show ∀ H', G K [] H' (e3.zip σ2 ++ ((some (.lst acc), some (.ref D)) :: (saved e0 σ vs ++ (keep ++ L)))) → _
          intro H3 g4
          cases t with
          | false =>
            simp only at q1
            show ∃ (e1 : Sl) (acc : List O), _
            exact fin l3 (by omega) q1 (g4.perm List.perm_middle)
          | true =>
            simp only at q1
            show tM K mg W0 me σ2 H3 _
            refine ⟨e3, (some (.lst acc), some (.ref D)) :: (saved e0 σ vs ++ (keep ++ L)), l3.trans lσ2'.symm, g4, ?_⟩
            cases qe : me e3 with
            | no => rw [qe] at q1; cases q1
            | exc c fs e4 => rw [qe] at q1; cases q1
            | ok o e4 =>
              rw [qe] at q1
              simp only at q1
              have l4 := (le.1 _ _ _ qe).trans l3
              show ∀ v H', G K [] H' ((some o, some v) :: (e4.zip σ2 ++ ((some (.lst acc), some (.ref D)) :: (saved e0 σ vs ++ (keep ++ L))))) → _
              intro y' H4 g5
              have g6 : G K [] H4 ((some (Ow.frz b o), some y') :: (some (.lst acc), some (.ref D)) :: (e4.zip σ2 ++ (saved e0 σ vs ++ (keep ++ L)))) := (G.frz g5).perm (List.Perm.cons _ List.perm_middle)
              obtain ⟨D', accV, eD, hD, elA, pushed⟩ := g6.push
              cases eD
              have hz := ok.len
              refine ⟨accV, hD, by omega, ?_⟩
              exact fin l4 (by rw [List.length_append, List.length_singleton]; omega) q1 (pushed (by omega))
    · left
      have ei : i = ds.length := by omega
      subst ei
      refine ⟨ok.stop H1 _ (g1.perm front), ?_⟩
      rw [List.drop_length] at q1
      have q1 : (R.ok acc e1 : R (List O)) = .ok acc0 eE := q1
      cases q1
      refine h0 (.ref D) H1 ?_
      have g2 : G K [] H1 (eE.zip (wipe σ vs) ++ (saved e0 σ vs ++ (((some (.lst acc0), some (.ref D)) :: L)))) := by
        have p : ((some (O.lst acc0), some (V.ref D)) :: (eE.zip (wipe σ vs) ++ (saved e0 σ vs ++ (keep ++ L)))).Perm (keep ++ (eE.zip (wipe σ vs) ++ (saved e0 σ vs ++ ((some (O.lst acc0), some (V.ref D)) :: L)))) := by
          refine front.trans (List.Perm.append_left _ ?_)
          exact List.perm_middle.symm.trans (List.Perm.append_left _ List.perm_middle.symm)
        exact (g1.perm p).right
      exact (G.rest l0 lE nd hv g2).perm List.perm_middle
/-- as a value -/
theorem se_lc (b : Bool) (hc : X.calm = true) (hN : X.N.Nodup) (hi : SI X W tg iter mi) (ok : blkC X.N X.env.scope scope own = true)
    (hg : ∀ (s : Shared) (H : Hp) (C : Addr) (cl : List (Str × Addr)) (fp : List Addr), SG (X.blk s H scope (compEnvC scope cl C X.env) fp) ts tg f)
    (ht : ∀ (s : Shared) (H : Hp) (C : Addr) (cl : List (Str × Addr)) (fp : List Addr), STs (X.blk s H scope (compEnvC scope cl C X.env) fp) W0 ifs mt)
    (he : ∀ (s : Shared) (H : Hp) (C : Addr) (cl : List (Str × Addr)) (fp : List Addr), SE (X.blk s H scope (compEnvC scope cl C X.env) fp) W0 elt me) (nd : (own.map (·.2)).Nodup := by decide) (hts : ∀ i ∈ ts, i ∈ own.map (·.2) := by decide) (hs : ∀ x, foldedSetIterable iter X.env x = pure x := by intro _; rfl) :
    SE X W (.ListComp elt [⟨tg, iter, ifs, 0⟩] scope pos) (mComp (own.map (·.2)) b mi f mt me) := by
  have d0 : Addr := 0
  have s0 : Shared := {}
  have lf := (hg s0 (fun _ => none) 0 [] []).len
  have lt := (ht s0 (fun _ => none) 0 [] []).len
  have le := (he s0 (fun _ => none) 0 [] []).len
  exact ⟨PE.imp (pe_lc hc hN hi.pi (blkOk_by ok) (fun s H C cl fp => (hg s H C cl fp).pg) (fun s H C cl fp => (ht s H C cl fp).pt) (fun s H C cl fp => (he s H C cl fp).pe) hs) fun σ H Q h => lc_of h hi.len lf lt le nd hts, Len.comp hi.len lf lt le⟩
/-- name = [..] on one line, the name a plain local -/
theorem ss_setLc {io : List Nat} {i : Nat} {y : Str} {py spos : Pos} (b bi : Bool) (hc : X.calm = true) (hN : X.N.Nodup) (hy : X.N[i]? = some y) (hyl : X.env.scope.names.lookup y = some .local)
    (hsw : swapsWith (.ListComp elt [⟨tg, iter, ifs, 0⟩] scope pos) (some (.Name y py)) spos.line X.env = pure true) (hi : SI X W tg iter mi) (ok : blkC X.N X.env.scope scope own = true)
    (hg : ∀ (s : Shared) (H : Hp) (C : Addr) (cl : List (Str × Addr)) (fp : List Addr), SG (X.blk s H scope (compEnvC scope cl C X.env) fp) ts tg f)
    (ht : ∀ (s : Shared) (H : Hp) (C : Addr) (cl : List (Str × Addr)) (fp : List Addr), STs (X.blk s H scope (compEnvC scope cl C X.env) fp) W0 ifs mt)
    (he : ∀ (s : Shared) (H : Hp) (C : Addr) (cl : List (Str × Addr)) (fp : List Addr), SE (X.blk s H scope (compEnvC scope cl C X.env) fp) W0 elt me) (hio : i ∉ io := by decide) (nd : (own.map (·.2)).Nodup := by decide) (hts : ∀ i ∈ ts, i ∈ own.map (·.2) := by decide) (hs : ∀ x, foldedSetIterable iter X.env x = pure x := by intro _; rfl) :
    SS X W io (.Assign [.Name y py] (.ListComp elt [⟨tg, iter, ifs, 0⟩] scope pos) spos) (mAsg (mComp (own.map (·.2)) b mi f mt me) (gSet i bi)) := by
  have s0 : Shared := {}
  have lf := (hg s0 (fun _ => none) 0 [] []).len
  have lt := (ht s0 (fun _ => none) 0 [] []).len
  have le := (he s0 (fun _ => none) 0 [] []).len
  have lc := Len.comp (vs := own.map (·.2)) (b := b) hi.len lf lt le
  refine ⟨PS.imp (ps_setLc (g := tG X.K ts f) (tt := tB X.K X.mg W0 mt) hc hN hy hyl hsw hi.pi (blkOk_by ok) (fun s H C cl fp => (hg s H C cl fp).pg) (fun s H C cl fp => (ht s H C cl fp).pt) (te := tM X.K X.mg W0 me) (fun s H C cl fp => (he s H C cl fp).pe) hs) fun D σ H h => ?_, lc.bind fun o => Len.gM (fun _ _ _ h => gSet_len h) o⟩
  refine lc_of (W := W) (b := b) (f := f) (mt := mt) (me := me) (mi := mi) (ts := ts) ?_ hi.len lf lt le nd hts
  obtain ⟨e, L, hl, g, h⟩ := h
  refine ⟨e, L, hl, g, h.bind.mono fun o e1 q1 ⟨_, h1⟩ v H1 g1 => ?_⟩
  unfold gM gSet at h1
  have l1 := (lc.1 _ _ _ q1).trans hl
  by_cases hlt : i < e1.length
  · rw [if_pos hlt] at h1
    exact h1 _ H1 (by simp) (pin.set hio) (G.setSlot hlt l1 g1.frz)
  · rw [if_neg hlt] at h1
    exact h1.elim
end
end Ow

set_option Elab.async false
set_option linter.all false
set_option maxRecDepth 100000
set_option maxHeartbeats 1000000
/-! Ow9: defs and their calls, raising. -/
namespace Ow
open PySem PySem.Spec PyProof.Rows L2

/-- what a def does: from its arguments (owned trees) what it hands back, and what is left in them -/
abbrev Fn := List O → R O
def PostF (K : PySem.W.Frag) (mg : Str → Option Value) (vs : List V) (L : List Item) (r : R O) (Q : VK) (E : XK) : Prop :=
  match r with
  | .ok o bk => ∀ v H', G K [] H' ((some o, some v) :: (bk.zip (vs.map some) ++ L)) → Q v H'
  | .exc c fs bk => XOk K mg c fs (bk.zip (vs.map some) ++ L) fun C d H' => E C d H'
  | .no => False
def spD (K : PySem.W.Frag) (mg : Str → Option Value) (np : Nat) (g : Fn) : Sp := fun vs H Q E => ∃ (os : List O) (L : List Item), os.length = vs.length ∧ os.length = np ∧ G K [] H (its os vs ++ L) ∧ PostF K mg vs L (g os) Q E
/-- a def by its body: np parameters, n slots, io the parameters that it may change -/
def back (io : List Nat) (np : Nat) (e : Sl) : Sl := (List.range np).map fun i => if i ∈ io then e.getD i none else none
def bodyFn (np n : Nat) (io : List Nat) (m : M Fl) : Fn := fun os => match m (os.map some ++ List.replicate (n - np) none) with
  | .ok (.rt o) e => .ok o (back io np e)
  | .ok .nx e => .ok (.sh .non) (back io np e)
  | .exc c fs e => .exc c fs (back io np e)
  | _ => .no
/-- items of which some are given up -/
inductive Weak : List Item → List Item → Prop
  | nil : Weak [] []
  | keep {a : Item} {A B : List Item} : Weak A B → Weak (a :: A) (a :: B)
  | drop {a : Item} {y : Option V} {A B : List Item} : Weak A B → Weak (a :: A) ((none, y) :: B)
section
variable {K : PySem.W.Frag} {mg : Str → Option Value} {H : Hp} {L : List Item}
theorem G.weak : ∀ {A B : List Item}, Weak A B → ∀ {L : List Item}, G K [] H (A ++ L) → G K [] H (B ++ L)
  | _, _, .nil, L, g => g
  | _, _, .keep (a := a) (A := A) (B := B) w, L, g => by
    have g1 : G K [] H (A ++ (a :: L)) := G.perm (show G K [] H (a :: (A ++ L)) from g) List.perm_middle.symm
    exact (G.weak w g1).perm List.perm_middle
  | _, _, .drop w, L, g => (G.weak w g.tail).noval
theorem weak_refl : ∀ A : List Item, Weak A A
  | [] => .nil
  | _ :: A => .keep (weak_refl A)
theorem weak_back {io : List Nat} {vs : List V} {e : Sl} {σ : L2.St} : ∀ (np k : Nat), k + np ≤ e.length → k + np ≤ σ.length → k + np ≤ vs.length → (∀ i ∈ io, i < vs.length → σ[i]? = (vs.map some)[i]?) →
    Weak (((e.drop k).take np).zip ((σ.drop k).take np)) (((List.range' k np).map fun i => if i ∈ io then e.getD i none else none).zip (((vs.map some).drop k).take np))
  | 0, k, _, _, _, _ => by simp; exact .nil
  | np + 1, k, h1, h2, h3, hp => by
    have e1 : e.drop k = e[k] :: e.drop (k + 1) := List.drop_eq_getElem_cons (by omega)
    have e2 : σ.drop k = σ[k] :: σ.drop (k + 1) := List.drop_eq_getElem_cons (by omega)
    have e3 : (vs.map some).drop k = (vs.map some)[k]'(by simp; omega) :: (vs.map some).drop (k + 1) := List.drop_eq_getElem_cons (by simp; omega)
    rw [e1, e2, e3, List.range'_succ, List.map_cons, List.take_succ_cons, List.take_succ_cons, List.take_succ_cons, List.zip_cons_cons, List.zip_cons_cons]
    have ih := weak_back (io := io) (vs := vs) (e := e) (σ := σ) np (k + 1) (by omega) (by omega) (by omega) hp
    by_cases hk : k ∈ io
    · rw [if_pos hk]
      have q1 : e.getD k none = e[k]'(by omega) := by rw [List.getD_eq_getElem?_getD, List.getElem?_eq_getElem (by omega)]; rfl
      have q2 : σ[k]'(by omega) = (vs.map some)[k]'(by simp; omega) := by
        have := hp k hk (by omega)
        rw [List.getElem?_eq_getElem (by omega), List.getElem?_eq_getElem (by simp; omega)] at this
        exact Option.some.inj this
      rw [q1, q2]
      exact .keep ih
    · rw [if_neg hk]
      exact .drop ih
theorem G.back {io : List Nat} {vs : List V} {e : Sl} {σ : L2.St} {np : Nat} (hl : e.length = σ.length) (hn : np ≤ e.length) (hv : vs.length = np) (hp : ∀ i ∈ io, i < vs.length → σ[i]? = (vs.map some)[i]?) (g : G K [] H (e.zip σ ++ L)) : G K [] H ((Ow.back io np e).zip (vs.map some) ++ L) := by
  have w := weak_back (io := io) (vs := vs) (e := e) (σ := σ) np 0 (by omega) (by omega) (by omega) hp
  have e1 : (Ow.back io np e).zip (vs.map some) = ((List.range' 0 np).map fun i => if i ∈ io then e.getD i none else none).zip (((vs.map some).drop 0).take np) := by
    unfold Ow.back
    rw [List.range_eq_range', List.drop_zero, List.take_of_length_le (by simp [hv])]
  have e2 : e.zip σ = ((e.drop 0).take np).zip ((σ.drop 0).take np) ++ (e.drop np).zip (σ.drop np) := by
    rw [List.drop_zero, List.drop_zero, ← List.zip_append (by simp [List.length_take]; omega), List.take_append_drop, List.take_append_drop]
  rw [e2, List.append_assoc] at g
  have g2 := (g.perm (pswap _ _ _)).right
  rw [e1]
  exact G.weak w g2
end

section
variable {P : Program} {w : World} {K : PySem.W.Frag} {mg : Str → Option Value} {base : Heap}
/-- the context of a def's body -/
abbrev cxB (P : Program) (w : World) (K : PySem.W.Frag) (mg : Str → Option Value) (base : Heap) (N : List Str) (qual : Str) (scope : Scope) (f : Addr) (cdv : Value) (A : Around) (outer : List Env) (s : Shared) (H : Hp) (E : XK) : Cx := cxOf (L2.CX P w) P w K mg base N qual scope f cdv A outer s H E
abbrev WE (E : XK) : WX := fun c d _ H => E c d H
theorem takes_body {N : List Str} {qual : Str} {scope : Scope} {f : Addr} {cdv : Value} {A : Around} {outer : List Env} {s : Shared} {H : Hp} {E : XK} : Takes (cxB P w K mg base N qual scope f cdv A outer s H E) (WE E) :=
  takes_of rfl rfl rfl rfl
/-- THE RULE for a def -/
theorem fn_ok {x qual : Str} {params : Arguments} {body : List Stmt} {scope : Scope} {f : Addr} {fd : FuncData} {N ps : List Str} {k : Nat} {io : List Nat} {m : M Fl} (F : FunD K x qual params body scope [] [] f fd) (S : FnScope N ps scope) (hN : ps.length ≤ N.length)
    (hb : ∀ (cdv : Value) (A : Around) (outer : List Env) (s : Shared) (H : Hp) (E : XK), Room k (A.deeper (envOfC qual scope s.heap.objs.size f cdv)) → SB (cxB P w K mg base N qual scope f cdv A outer s H E) (WE E) io body m) :
    FnOk P w K mg base (L2.CX P w) (k + 1) f fd ps (spD K mg ps.length (bodyFn ps.length N.length io m)) := by
  refine F.ok S (fun vs H Q E h => ?_) (fun cdv A outer s H vs Q E hr h => ?_)
  · obtain ⟨os, L, h1, h2, _⟩ := h
    omega
  · have B := hb cdv A outer s H E hr
    refine ⟨_, B.ps, ?_⟩
    obtain ⟨os, L, hl, hn, g, h⟩ := h
    have le : (os.map some ++ List.replicate (N.length - ps.length) none : Sl).length = N.length := by simp [hn]; omega
    have ls : (L2.start N vs).length = N.length := by unfold L2.start; simp [← hl, hn]; omega
    refine ⟨os.map some ++ List.replicate (N.length - ps.length) none, L, by rw [le, ls], ?_, ?_⟩
    · have ez : (os.map some ++ List.replicate (N.length - ps.length) none : Sl).zip (L2.start N vs) = its os vs ++ (List.replicate (N.length - ps.length) (none, none) : List Item) := by
        unfold L2.start
        rw [List.zip_append (by simp [hl])]
        congr 1
        rw [← hl, hn, List.zip_replicate']
      rw [ez, List.append_assoc]
      have aux : ∀ n : Nat, G K [] H ((List.replicate n ((none, none) : Item)) ++ (its os vs ++ L)) := by
        intro n
        induction n with
        | zero => exact g
        | succ n ih => exact ih.noval
      exact (aux _).perm (pswap _ _ _)
    · have pinv : ∀ σ', pin io (L2.start N vs) σ' → ∀ i ∈ io, i < vs.length → σ'[i]? = (vs.map some)[i]? := fun σ' hp i hi hlt => by
        rw [hp i hi]
        unfold L2.start
        rw [List.getElem?_append_left (by simpa using hlt)]
      unfold bodyFn at h
      cases q : m (os.map some ++ List.replicate (N.length - ps.length) none) with
      | no => rw [q] at h; exact h.elim
      | exc c fs e' =>
        rw [q] at h
        have le' := (B.len.2 _ _ _ _ q).trans le
        intro σ' hl' hp C d ws H' hc hlen hd g'
        have h : XOk K mg c fs ((back io ps.length e').zip (vs.map some) ++ L) fun C d H' => E C d H' := h
        refine h C d ws H' hc hlen hd ?_
        have g2 := g'.perm (pswap _ _ _)
        exact (G.back (by rw [le', hl', ls]) (by omega) (by omega) (pinv σ' hp) g2).perm (pswap _ _ _)
      | ok fl e' =>
        rw [q] at h
        have le' := (B.len.1 _ _ _ q).trans le
        cases fl with
        | bk => exact h.elim
        | ct => exact h.elim
        | nx =>
          intro σ' H' hl' hp g'
          have h : ∀ v H', G K [] H' ((some (.sh .non), some v) :: ((back io ps.length e').zip (vs.map some) ++ L)) → Q v H' := h
          exact h .non H' ((G.back (by rw [le', hl', ls]) (by omega) (by omega) (pinv σ' hp) g').flat fun Z => rfl)
        | rt o =>
          intro v σ' H' hl' hp g'
          have h : ∀ v H', G K [] H' ((some o, some v) :: ((back io ps.length e').zip (vs.map some) ++ L)) → Q v H' := h
          refine h v H' ?_
          exact (G.back (L := (some o, some v) :: L) (by rw [le', hl', ls]) (by omega) (by omega) (pinv σ' hp) (g'.perm List.perm_middle.symm)).perm List.perm_middle
end

/-! ### calls -/
/-- an argument: a value, or a name of the frame whose tree is lent -/
inductive A1 where
  | v (o : O) | l (i : Nat)
  /-- a tree that is handed over -/
  | w (o : O)
def takeA : List A1 → Sl → Option (List O × Sl)
  | [], e => some ([], e)
  | .v o :: as, e => (takeA as e).map fun p => (.sh o.er :: p.1, p.2)
  | .w o :: as, e => (takeA as e).map fun p => (o :: p.1, p.2)
  | .l i :: as, e => match e[i]? with
    | some (some o) => (takeA as (e.set i none)).map fun p => (o :: p.1, p.2)
    | _ => none
def putA : List A1 → Sl → Sl → Sl
  | .v _ :: as, _ :: bk, e => putA as bk e
  | .w _ :: as, _ :: bk, e => putA as bk e
  | .l i :: as, b :: bk, e => (putA as bk e).set i b
  | _, _, e => e
def itsA : List A1 → List V → List Item
  | .v o :: as, x :: vs => (some (.sh o.er), some x) :: itsA as vs
  | .w o :: as, x :: vs => (some o, some x) :: itsA as vs
  | .l _ :: as, x :: vs => (none, some x) :: itsA as vs
  | _, _ => []
/-- lent names stand for their slots' values -/
def lentOk (σ : L2.St) : List A1 → List V → Prop
  | .v _ :: as, _ :: vs => lentOk σ as vs
  | .w _ :: as, _ :: vs => lentOk σ as vs
  | .l i :: as, x :: vs => σ[i]? = some (some x) ∧ lentOk σ as vs
  | [], [] => True
  | _, _ => False
def tAs (K : PySem.W.Frag) (mg : Str → Option Value) (W : WX) (m : M (List A1)) : TA := fun σ H Q => ∃ (e : Sl) (L : List Item), e.length = σ.length ∧ G K [] H (e.zip σ ++ L) ∧
  Post K mg W σ L (m e) fun as e' => ∀ vs H', lentOk σ as vs → G K [] H' (itsA as vs ++ (e'.zip σ ++ L)) → Q vs H'
structure SAs (X : Cx) (W : WX) (es : List Expr) (m : M (List A1)) : Prop where
  pa : PA X es (tAs X.K X.mg W m)
  len : Len m
section
variable {X : Cx} {W : WX} {a : Expr} {es : List Expr} {ma : M O} {mas : M (List A1)} {x : Str} {pos p : Pos}
theorem sas_nil : SAs X W [] (M.ret []) := by
  refine ⟨PA.imp pa_nil fun σ H Q h => ?_, Len.ret⟩
  obtain ⟨e, L, hl, g, h⟩ := h
  exact h [] H trivial g
def mConsV (m : M O) (ms : M (List A1)) : M (List A1) := m.bind fun o => ms.bind fun as => M.ret (.v o :: as)
def mConsL (i : Nat) (ms : M (List A1)) : M (List A1) := ms.bind fun as => M.ret (.l i :: as)
theorem sas_v (ha : SE X W a ma) (hr : SAs X W es mas) (hs : starEach (a :: es) X.env = (false, eval a X.env) :: starEach es X.env := by rfl) : SAs X W (a :: es) (mConsV ma mas) := by
  refine ⟨PA.imp (pa_cons ha.pe hr.pa hs) fun σ H Q h => ?_, ha.len.bind fun _ => hr.len.bind fun _ => Len.ret⟩
  obtain ⟨e, L, hl, g, h⟩ := h
  refine ⟨e, L, hl, g, h.bind.mono fun o e1 q1 ⟨_, h1⟩ v H1 g1 => ?_⟩
  refine ⟨e1, (some (.sh o.er), some v) :: L, (ha.len.1 _ _ _ q1).trans hl, g1.er.perm List.perm_middle.symm, h1.bind.more1 fun as e2 q2 ⟨_, h2⟩ vs H2 el g2 => ?_⟩
  exact h2 (v :: vs) H2 el (g2.perm ((List.Perm.append_left _ List.perm_middle).trans List.perm_middle))
def mConsW (m : M O) (ms : M (List A1)) : M (List A1) := m.bind fun o => ms.bind fun as => M.ret (.w o :: as)
/-- a value that is handed over with all that it owns -/
theorem sas_w (ha : SE X W a ma) (hr : SAs X W es mas) (hs : starEach (a :: es) X.env = (false, eval a X.env) :: starEach es X.env := by rfl) : SAs X W (a :: es) (mConsW ma mas) := by
  refine ⟨PA.imp (pa_cons ha.pe hr.pa hs) fun σ H Q h => ?_, ha.len.bind fun _ => hr.len.bind fun _ => Len.ret⟩
  obtain ⟨e, L, hl, g, h⟩ := h
  refine ⟨e, L, hl, g, h.bind.mono fun o e1 q1 ⟨_, h1⟩ v H1 g1 => ?_⟩
  refine ⟨e1, (some o, some v) :: L, (ha.len.1 _ _ _ q1).trans hl, g1.perm List.perm_middle.symm, h1.bind.more1 fun as e2 q2 ⟨_, h2⟩ vs H2 el g2 => ?_⟩
  exact h2 (v :: vs) H2 el (g2.perm ((List.Perm.append_left _ List.perm_middle).trans List.perm_middle))
/-- a name that is lent: the slot must hold something when the call is made -/
theorem sas_l (i : Nat) {y : Str} (hr : SAs X W es mas) (hN : X.N[i]? = some y := by rfl) (hv : Vis X.env.scope y := by first | exact Or.inl rfl | exact Or.inr (Or.inl rfl) | exact Or.inr (Or.inr rfl)) (hd : (y == ("__debug__" : Str)) = false := by decide) (hcd : (y == ("__classdict__" : Str)) = false := by decide)
    (hs : starEach (.Name y p :: es) X.env = (false, eval (.Name y p) X.env) :: starEach es X.env := by rfl) : SAs X W (.Name y p :: es) (slotM i fun _ => mConsL i mas) := by
  refine ⟨PA.imp (pa_cons (pe_var hN hv hd hcd) hr.pa hs) fun σ H Q h => ?_, Len.slot fun _ => hr.len.bind fun _ => Len.ret⟩
  obtain ⟨e, L, hl, g, h⟩ := h
  obtain ⟨o, ho, h⟩ := Post.slot h
  obtain ⟨v, hv⟩ := slot_val ho hl g
  refine ⟨v, hv, e, L, hl, g, h.bind.mono fun as e2 q2 ⟨_, h2⟩ vs H2 el g2 => ?_⟩
  exact h2 (v :: vs) H2 ⟨hv, el⟩ g2.noval
def mCallK (g : Fn) (as : List A1) : M O := fun e => match takeA as e with
  | none => .no
  | some (os, e1) => match g os with
    | .ok o bk => if bk.length = os.length then .ok o (putA as bk e1) else .no
    | .exc c fs bk => if bk.length = os.length then .exc c fs (putA as bk e1) else .no
    | .no => .no
def mCall (g : Fn) (ms : M (List A1)) : M O := ms.bind fun as => mCallK g as
theorem takeA_len : ∀ {as : List A1} {e e1 : Sl} {os : List O}, takeA as e = some (os, e1) → e1.length = e.length ∧ os.length = as.length
  | [], e, e1, os, h => by cases h; exact ⟨rfl, rfl⟩
  | .v o :: as, e, e1, os, h => by
    unfold takeA at h
    obtain ⟨⟨os', e'⟩, h1, h2⟩ := Option.map_eq_some_iff.mp h
    cases h2
    have := takeA_len h1
    exact ⟨this.1, by simp [this.2]⟩
  | .w o :: as, e, e1, os, h => by
    unfold takeA at h
    obtain ⟨⟨os', e'⟩, h1, h2⟩ := Option.map_eq_some_iff.mp h
    cases h2
    have := takeA_len h1
    exact ⟨this.1, by simp [this.2]⟩
  | .l i :: as, e, e1, os, h => by
    unfold takeA at h
    split at h
    · obtain ⟨⟨os', e'⟩, h1, h2⟩ := Option.map_eq_some_iff.mp h
      cases h2
      have := takeA_len h1
      exact ⟨by rw [this.1, List.length_set], by simp [this.2]⟩
    · cases h
theorem putA_len : ∀ (as : List A1) (bk e : Sl), (putA as bk e).length = e.length
  | [], bk, e => by unfold putA; rfl
  | .v o :: as, [], e => rfl
  | .v o :: as, b :: bk, e => by unfold putA; exact putA_len as bk e
  | .w o :: as, [], e => rfl
  | .w o :: as, b :: bk, e => by unfold putA; exact putA_len as bk e
  | .l i :: as, [], e => rfl
  | .l i :: as, b :: bk, e => by unfold putA; rw [List.length_set]; exact putA_len as bk e
theorem Len.call {g : Fn} {ms : M (List A1)} (h : Len ms) : Len (mCall g ms) := h.bind fun as => by
  constructor
  · intro e a e' q
    unfold mCallK at q
    split at q
    · cases q
    · rename_i os e1 h1
      split at q
      · split at q
        · cases q; rw [putA_len]; exact (takeA_len h1).1
        · cases q
      · split at q <;> cases q
      · cases q
  · intro e c fs e' q
    unfold mCallK at q
    split at q
    · cases q
    · rename_i os e1 h1
      split at q
      · split at q <;> cases q
      · split at q
        · cases q; rw [putA_len]; exact (takeA_len h1).1
        · cases q
      · cases q
theorem G.takeA {K : PySem.W.Frag} {H : Hp} {σ : L2.St} : ∀ {as : List A1} {vs : List V} {e e1 : Sl} {os : List O} {L : List Item}, takeA as e = some (os, e1) → e.length = σ.length → lentOk σ as vs → G K [] H (itsA as vs ++ (e.zip σ ++ L)) → os.length = vs.length ∧ G K [] H (its os vs ++ (e1.zip σ ++ L))
  | [], [], e, e1, os, L, h, hl, lo, g => by cases h; exact ⟨rfl, g⟩
  | [], _ :: _, e, e1, os, L, h, hl, lo, g => lo.elim
  | .v o :: as, [], e, e1, os, L, h, hl, lo, g => lo.elim
  | .w o :: as, [], e, e1, os, L, h, hl, lo, g => lo.elim
  | .l i :: as, [], e, e1, os, L, h, hl, lo, g => lo.elim
  | .v o :: as, x :: vs, e, e1, os, L, h, hl, lo, g => by
    unfold Ow.takeA at h
    obtain ⟨⟨os', e'⟩, h1, h2⟩ := Option.map_eq_some_iff.mp h
    cases h2
    have g1 : G K [] H ((some (.sh o.er), some x) :: (itsA as vs ++ (e.zip σ ++ L))) := g
    have g2 : G K [] H (itsA as vs ++ (e.zip σ ++ ((some (.sh o.er), some x) :: L))) := g1.perm (List.perm_middle.symm.trans (List.Perm.append_left _ List.perm_middle.symm))
    obtain ⟨el, g3⟩ := G.takeA h1 hl lo g2
    refine ⟨by simp [el], ?_⟩
    exact g3.perm ((List.Perm.append_left _ List.perm_middle).trans List.perm_middle)
  | .w o :: as, x :: vs, e, e1, os, L, h, hl, lo, g => by
    unfold Ow.takeA at h
    obtain ⟨⟨os', e'⟩, h1, h2⟩ := Option.map_eq_some_iff.mp h
    cases h2
    have g1 : G K [] H ((some o, some x) :: (itsA as vs ++ (e.zip σ ++ L))) := g
    have g2 : G K [] H (itsA as vs ++ (e.zip σ ++ ((some o, some x) :: L))) := g1.perm (List.perm_middle.symm.trans (List.Perm.append_left _ List.perm_middle.symm))
    obtain ⟨el, g3⟩ := G.takeA h1 hl lo g2
    refine ⟨by simp [el], ?_⟩
    exact g3.perm ((List.Perm.append_left _ List.perm_middle).trans List.perm_middle)
  | .l i :: as, x :: vs, e, e1, os, L, h, hl, lo, g => by
    unfold Ow.takeA at h
    split at h
    · rename_i o ho
      obtain ⟨⟨os', e'⟩, h1, h2⟩ := Option.map_eq_some_iff.mp h
      cases h2
      obtain ⟨hv, lo⟩ := lo
      have g1 : G K [] H ((none, some x) :: (itsA as vs ++ (e.zip σ ++ L))) := g
      have g2 : G K [] H (e.zip σ ++ (itsA as vs ++ L)) := g1.tail.perm (pswap _ _ _)
      have g3 := g2.take ho hv
      have g4 : G K [] H (itsA as vs ++ ((e.set i none).zip σ ++ ((some o, some x) :: L))) := g3.perm ((List.Perm.cons _ (pswap _ _ _)).trans (List.perm_middle.symm.trans (List.Perm.append_left _ List.perm_middle.symm)))
      obtain ⟨el, g5⟩ := G.takeA h1 (by rw [List.length_set]; exact hl) lo g4
      refine ⟨by simp [el], ?_⟩
      exact g5.perm ((List.Perm.append_left _ List.perm_middle).trans List.perm_middle)
    · cases h
theorem G.putA {K : PySem.W.Frag} {H : Hp} {σ : L2.St} : ∀ {as : List A1} {vs : List V} {bk e : Sl} {L : List Item}, bk.length = as.length → e.length = σ.length → lentOk σ as vs → G K [] H (bk.zip (vs.map some) ++ (e.zip σ ++ L)) → G K [] H ((putA as bk e).zip σ ++ L)
  | [], [], bk, e, L, hb, hl, lo, g => by
    have : bk = [] := List.length_eq_zero_iff.mp hb
    subst this
    exact g
  | [], _ :: _, bk, e, L, hb, hl, lo, g => lo.elim
  | .v o :: as, [], bk, e, L, hb, hl, lo, g => lo.elim
  | .w o :: as, [], bk, e, L, hb, hl, lo, g => lo.elim
  | .w o :: as, x :: vs, [], e, L, hb, hl, lo, g => by simp at hb
  | .w o :: as, x :: vs, b :: bk, e, L, hb, hl, lo, g => G.putA (as := as) (vs := vs) (bk := bk) (by simpa using hb) hl lo g.tail
  | .l i :: as, [], bk, e, L, hb, hl, lo, g => lo.elim
  | .v o :: as, x :: vs, [], e, L, hb, hl, lo, g => by simp at hb
  | .l i :: as, x :: vs, [], e, L, hb, hl, lo, g => by simp at hb
  | .v o :: as, x :: vs, b :: bk, e, L, hb, hl, lo, g => G.putA (as := as) (vs := vs) (bk := bk) (by simpa using hb) hl lo g.tail
  | .l i :: as, x :: vs, b :: bk, e, L, hb, hl, lo, g => by
    obtain ⟨hv, lo⟩ := lo
    have g1 : G K [] H ((b, some x) :: (bk.zip (vs.map some) ++ (e.zip σ ++ L))) := g
    have g2 : G K [] H (bk.zip (vs.map some) ++ (e.zip σ ++ ((b, some x) :: L))) := g1.perm (List.perm_middle.symm.trans (List.Perm.append_left _ List.perm_middle.symm))
    have g3 := G.putA (as := as) (vs := vs) (bk := bk) (by simpa using hb) hl lo g2
    have hi : i < σ.length := (List.getElem?_eq_some_iff.mp hv).1
    have g4 := G.setSlot (i := i) (by rw [putA_len]; omega) (by rw [putA_len]; exact hl) (g3.perm List.perm_middle)
    rw [set_id hv] at g4
    exact g4
/-- a def that is called by its name: what it does, to what depth of calls -/
structure Df (P : Program) (w : World) (K : PySem.W.Frag) (mg : Str → Option Value) (base : Heap) (k : Nat) (x : Str) (np : Nat) (g : Fn) : Prop where
  ex : ∃ (f : Addr) (fd : FuncData) (ps : List Str), mg x = some (.ref f) ∧ PySem.W.keepIn K (.ref f) = true ∧ ps.length = np ∧ Binds K fd ps [] ∧ FnOk P w K mg base (L2.CX P w) k f fd ps (spD K mg np g)
theorem se_call {g : Fn} {np k j : Nat} (D : Df X.prog X.w X.K X.mg X.base k x np g) (hr : Room j X.A) (hk : k ≤ j) (tk : Takes X W) (hg : Gl X x) (ha : SAs X W (a :: es) mas) (hnp : (a :: es).length = np := by rfl) (hdb : (x == ("__debug__" : Str)) = false := by decide)
    (he : starEach (a :: es) X.env = (false, eval a X.env) :: starEach es X.env := by rfl) (hpl : (backTo pos (starEach es X.env)).any (·.1) = false := by rfl) : SE X W (.Call (.Name x p) (a :: es) [] pos) (mCall (fun os => if os.length = np then g os else .no) mas) := by
  obtain ⟨f, fd, ps, hm, hkp, hps, hb, F⟩ := D.ex
  refine ⟨PE.imp (pe_callS (E := fun σ => L2.WE W σ) F (hr.mono hk) hg hm hkp hb (fun σ => passAt tk σ) ha.pa hdb he hpl) fun σ H Q h => ?_, ha.len.call⟩
  obtain ⟨e, L, hl, gd, h⟩ := h
  refine ⟨e, L, hl, gd, h.bind.mono fun as e1 q1 ⟨_, h1⟩ vs H1 lo g1 => ?_⟩
  have l1 := (ha.len.1 _ _ _ q1).trans hl
  unfold mCallK at h1
  cases qt : takeA as e1 with
  | none => simp only [qt] at h1; exact h1.elim
  | some pr =>
    obtain ⟨os, e2⟩ := pr
    simp only [qt] at h1
    obtain ⟨el, g2⟩ := G.takeA qt l1 lo g1
    have l2 := (takeA_len qt).1.trans l1
    have lb := (takeA_len qt).2
    by_cases hn : os.length = np
    · simp only [if_pos hn] at h1
      refine ⟨os, e2.zip σ ++ L, el, hn, g2, ?_⟩
      cases qg : g os with
      | no => simp only [qg] at h1; exact h1.elim
      | ok o bk =>
        simp only [qg] at h1
        split at h1
        · rename_i hbk
          intro v H2 g3
          refine h1 v H2 ?_
          have g4 : G X.K [] H2 (bk.zip (vs.map some) ++ (e2.zip σ ++ ((some o, some v) :: L))) := g3.perm (List.perm_middle.symm.trans (List.Perm.append_left _ List.perm_middle.symm))
          exact (G.putA (by omega) l2 lo g4).perm List.perm_middle
        · exact h1.elim
      | exc c fs bk =>
        simp only [qg] at h1
        split at h1
        · rename_i hbk
          intro C d ws H2 hc hlen hd g3
          have h1 : XOk X.K X.mg c fs ((putA as bk e2).zip σ ++ L) fun C d H' => W C d σ H' := h1
          refine h1 C d ws H2 hc hlen hd ?_
          have g4 : G X.K [] H2 (bk.zip (vs.map some) ++ (e2.zip σ ++ (its (fs.map fun p => O.sh p.2) ws ++ L))) := by
            refine g3.perm ?_
            refine (pswap _ _ _).trans (List.Perm.append_left _ ?_)
            exact pswap _ _ _
          exact (G.putA (by omega) l2 lo g4).perm (pswap _ _ _)
        · exact h1.elim
    · simp only [if_neg hn] at h1
      exact h1.elim
end

/-! ### raise C(e): a class with an __init__ that stores one thing -/
def spInit (C : Addr) (f : Str) : Sp := fun vs H Q _ => ∃ (a : Addr) (y : V), vs = [.ref a, y] ∧ H a = some (exo a C none) ∧ ∀ dx, H dx = none → dx ≠ a → Q .non (upd (upd H dx (exd dx [(f, y)])) a (exo a C (some dx)))
structure Xc (P : Program) (w : World) (K : PySem.W.Frag) (mg : Str → Option Value) (base : Heap) (k : Nat) (x f : Str) : Prop where
  ex : ∃ (C fI : Addr) (fd : FuncData) (ps : List Str), mg x = some (.ref C) ∧ OexC K C ∧ PySem.W.findIn K (.ref C) "__init__" = some (some (.ref fI)) ∧ PySem.W.typeIn K (.ref fI) = some (.type "function") ∧ Binds K fd ps [] ∧ FnOk P w K mg base (L2.CX P w) k fI fd ps (spInit C f)
section
variable {X : Cx} {W : WX} {io : List Nat} {a : Expr} {ma : M O} {x f : Str} {pos p rp : Pos}
def mRaise (x f : Str) (ma : M O) : M Fl := ma.bind fun o e => .exc x [(f, o.er)] e
theorem ss_raise {k j : Nat} (D : Xc X.prog X.w X.K X.mg X.base k x f) (hr : Room j X.A) (hk : k + 1 ≤ j) (hc : X.calm = true) (tk : Takes X W) (hg : Gl X x) (ha : SE X W a ma) (hdb : (x == ("__debug__" : Str)) = false := by decide) (na : starEach [a] X.env = (false, eval a X.env) :: starEach [] X.env := by rfl) (hpl : (backTo pos (starEach [] X.env)).any (·.1) = false := by rfl) :
    SS X W io (.Raise (some (.Call (.Name x p) [a] [] pos)) none rp) (mRaise x f ma) := by
  obtain ⟨C, fI, fd, ps, hm, T, iC, tI, hb, F⟩ := D.ex
  have lm : Len (mRaise x f ma) := ha.len.bind fun o => And.intro (fun e a e' h => by cases h) (fun e c fs e' h => by cases h; rfl)
  have pass : Passes (L2.CX X.prog X.w) X (fun _ _ _ => False) := fun _ _ _ _ _ _ _ h => by
    obtain ⟨_, _, _, _, _, _, _, _, _, _, _, _, z⟩ := h
    exact z.elim
  refine ⟨PS.imp (ps_raise hc tk (pmk_oex (e := a) (es := []) (dvs := []) (ds := []) T iC tI F (hr.mono hk) hb .nil pass hg hm (sa_cons ha sa_nil na).pa hdb na hpl)) fun D σ H h => ?_, lm⟩
  obtain ⟨e, L, hl, g, h⟩ := h
  refine ⟨e, L, hl, g, ?_⟩
  unfold mRaise at h
  unfold mCons
  have h1 := h.bind
  unfold M.bind
  cases q : ma e with
  | no => rw [q] at h1; exact h1.elim
  | exc c fs e1 => rw [q] at h1; exact h1
  | ok o e1 =>
    rw [q] at h1
    obtain ⟨_, h1⟩ := (show _ ∧ _ from h1)
    refine fun (vs : List V) (H1 : Hp) (el : [o].length = vs.length) g1 => ?_
    match vs, el, g1 with
    | [y], _, g1 =>
      have g2 : G X.K [] H1 ((some o, some y) :: (e1.zip σ ++ L)) := g1
      refine ⟨by show 1 ≤ 1000; decide, fun x' hx => ?_⟩
      refine ⟨x', y, rfl, upd_same, fun dx hdx hne => ?_⟩
      have ndx : H1 dx = none := by rw [← hdx, upd_ne hne]
      refine ⟨rfl, dx, [(f, y)], upd_same, by rw [upd_ne hne, upd_same], ndx, ?_⟩
      have h1 : ∀ σ', σ'.length = σ.length → pin io σ σ' → XOk X.K X.mg x [(f, o.er)] (e1.zip σ' ++ L) fun C d H' => W C d σ' H' := h1
      have keep : ∀ b ob, H1 b = some ob → upd (del (upd (upd (upd H1 x' (exo x' C none)) dx (exd dx [(f, y)])) x' (exo x' C (some dx))) x') dx (.xd [(f, y)]) b = some ob := fun b ob hb => by
        have n1 : b ≠ dx := ne_of_none hb ndx
        have n2 : b ≠ x' := ne_of_none hb hx
        rw [upd_ne n1, del_ne n2, upd_ne n2, upd_ne n1, upd_ne n2]
        exact hb
      refine h1 σ rfl pin.refl C dx [y] _ hm rfl ?_ (g2.er.grow keep)
      rw [upd_same]
      rfl
end
end Ow

set_option Elab.async false
set_option linter.all false
set_option maxRecDepth 100000
set_option maxHeartbeats 1000000
/-! Ow10: isinstance, int, str, list, tuple, all, split, join, append, pop. -/
namespace Ow
open PySem PySem.Spec PyProof.Rows L2

inductive Ty where
  | non | bool | int | str | list | tuple | dict
  deriving DecidableEq
def Ty.name : Ty → String
  | .non => "NoneType" | .bool => "bool" | .int => "int" | .str => "str" | .list => "list" | .tuple => "tuple" | .dict => "dict"
def Ty.sub : Ty → Ty → Bool
  | .bool, .int => true
  | a, b => decide (a = b)
theorem Ty.kit : ∀ a b : Ty, b ≠ .non → kitB a.name b.name = some (a.sub b) := by
  intro a b h
  cases a <;> cases b <;> first | exact absurd rfl h | decide +kernel
def D.ty : D → Option Ty
  | .non => some .non
  | .bl _ => some .bool
  | .int _ => some .int
  | .str _ => some .str
  | .lst _ => some .list
  | .tup _ => some .tuple
  | .gl _ => none
  | .dct _ _ => some .dict
theorem RepD.ty {K : PySem.W.Frag} {H : Hp} {Z : List Addr} {d : D} {v : V} {t : Ty} (h : RepD K H Z d v) (e : d.ty = some t) : TyX K H v (.type t.name) := by
  cases d with
  | non => cases e; rw [show v = .non from h]; exact .base .non
  | bl b => cases e; rw [show v = .bl _ from h]; exact .base (.bl _)
  | int b => cases e; rw [show v = .int _ from h]; exact .base (.int _)
  | str b => cases e; rw [show v = .str _ from h]; exact .base (.str _)
  | gl b => cases e
  | dct _ _ => cases e; obtain ⟨a, e, _, _, _, h⟩ := h; rw [e]; exact .base (.dK h)
  | lst xs => cases e; obtain ⟨a, vs, e, n, r, hs⟩ := h; rw [e]; exact .base (.lst r.2)
  | tup xs =>
    cases e; obtain ⟨a, vs, e, n, r, hs⟩ := h; rw [e]
    rcases r with r | ⟨o, its, m, h1, h2, _⟩
    · exact .base (.tup r.2)
    · exact .kTuple h1 h2
/-- a built-in type, as a value -/
def tyD (t : Ty) : D := .gl (.ty t.name)
def D.asTy : D → Option Ty
  | .gl (.ty n) => [Ty.bool, .int, .str, .list, .tuple, .dict].find? fun t => t.name == n
  | _ => none
theorem asTy_some {d : D} {t : Ty} (h : d.asTy = some t) : d = tyD t ∧ t ≠ .non := by
  unfold D.asTy at h
  split at h
  · rename_i n
    have h1 := List.find?_some h
    have h2 := List.mem_of_find?_eq_some h
    have h1 : (t.name == n) = true := h1
    rw [beq_iff_eq] at h1
    refine ⟨by rw [← h1]; rfl, ?_⟩
    rintro rfl
    simp at h2
  · cases h
def isiF : List D → Option O
  | [x, .tup ts] => x.ty.bind fun a => (ts.mapM D.asTy).map fun bs => .sh (.bl (bs.any fun b => a.sub b))
  | [x, t] => x.ty.bind fun a => t.asTy.map fun b => .sh (.bl (a.sub b))
  | _ => none
section
variable {X : Cx} {W : WX} {a b : Expr} {ma mb : M O} {pos p : Pos} {x : Str} {K : PySem.W.Frag} {mg : Str → Option Value} {es : List Expr} {mas : M (List O)}
theorem mapM_tys : ∀ {ts : List D} {bs : List Ty}, ts.mapM D.asTy = some bs → ts = bs.map tyD ∧ ∀ b ∈ bs, b ≠ .non
  | [], bs, h => by
    simp at h
    subst h
    exact ⟨rfl, by simp⟩
  | t :: ts, bs, h => by
    rw [List.mapM_cons] at h
    cases h1 : t.asTy with
    | none => rw [h1] at h; cases h
    | some b =>
      cases h2 : ts.mapM D.asTy with
      | none => rw [h1, h2] at h; cases h
      | some bs' =>
        rw [h1, h2] at h
        cases h
        obtain ⟨e1, n1⟩ := asTy_some h1
        obtain ⟨e2, n2⟩ := mapM_tys h2
        refine ⟨by rw [e1, e2]; rfl, fun c hc => ?_⟩
        rcases List.mem_cons.mp hc with rfl | hc
        · exact n1
        · exact n2 c hc
theorem kitAny_tys {t : Ty} : ∀ {bs : List Ty}, (∀ b ∈ bs, b ≠ .non) → PySem.W.kitAny K (.type t.name) (bs.map fun b => Value.type b.name) = some (bs.any fun b => t.sub b)
  | [], _ => kitAny_nil
  | b :: bs, h => by
    have ih := kitAny_tys (t := t) (bs := bs) fun c hc => h c (List.mem_cons_of_mem _ hc)
    refine kitAny_cons (b := t.sub b) (kit_ty (Ty.kit t b (h b List.mem_cons_self))) (fun e => ?_) fun e => ?_
    · rw [ih, List.any_cons, e]; rfl
    · rw [List.any_cons, e]; rfl
theorem reps_tys {H : Hp} {Z : List Addr} : ∀ {bs : List Ty} {vs : List V}, RepDs K H Z (bs.map tyD) vs → vs = bs.map fun b => V.ty b.name
  | [], vs, h => h
  | b :: bs, vs, h => by
    obtain ⟨v, r, e, h1, h2⟩ := h
    rw [e, reps_tys h2, show v = V.ty b.name from h1]
    rfl
theorem cls_tys : ∀ bs : List Ty, Paired ClsV (bs.map fun b => V.ty b.name) (bs.map fun b => Value.type b.name)
  | [] => .nil
  | b :: bs => .cons (.ty b.name) (cls_tys bs)
theorem vals_tys : ∀ {bs : List Ty} {us : List Value}, Vals (bs.map fun b => V.ty b.name) us → us = bs.map fun b => Value.type b.name
  | [], us, h => by
    have h : Vals [] us := h
    cases h
    rfl
  | b :: bs, us, h => by
    have h : Vals (V.ty b.name :: bs.map fun b => V.ty b.name) us := h
    cases h with
    | cons r t => rw [vals_tys t, show _ = Value.type b.name from r]; rfl
def rIsiA (K : PySem.W.Frag) : List V → Hp → VK → Prop := fun xs H Q => rIsi K xs H Q ∨ rIsiT K xs H Q ∨ rIsiK K xs H Q
theorem isiF_ok : COk K (rIsiA K) isiF := by
  intro xs o us H L Q e el g q
  unfold isiF at e
  split at e
  · rename_i x ts
    obtain ⟨u, v, rfl⟩ := two_us el
    have g0 : G K [] H ((some (.sh x), some u) :: (some (.sh (.tup ts)), some v) :: L) := g
    cases ht : x.ty with
    | none => rw [ht] at e; cases e
    | some t =>
      rw [ht] at e
      cases hb : ts.mapM D.asTy with
      | none => simp only [Option.bind_some, hb] at e; cases e
      | some bs =>
        simp only [Option.bind_some, hb] at e
        cases e
        obtain ⟨e1, n1⟩ := mapM_tys hb
        subst e1
        have fin : Q (.bl (bs.any fun b => t.sub b)) H := q _ H (g0.tail.tail.flat fun Z => rfl)
        obtain ⟨F, ⟨tp, vs, e2, hn, r, hs⟩, _⟩ := g0.tail.off
        have e3 := reps_tys hs
        subst e2 e3
        rcases r with ⟨_, r⟩ | ⟨ob, its, n, k1, k2, k3, k4, k5⟩
        · exact .inr (.inl ⟨u, tp, _, _, _, _, rfl, r, cls_tys bs, g0.rep.ty ht, kitAny_tys n1, fin⟩)
        · obtain ⟨oc, od, dt, sl⟩ := ob
          simp only at k2 k3
          subst k2 k3
          have e4 := vals_tys k5
          refine .inr (.inr ⟨u, tp, od, its.toList, n, sl, _, _, rfl, by simpa using k1, g0.rep.ty ht, ?_, fin⟩)
          rw [e4]
          exact kitAny_tys n1
  · rename_i x t hne
    obtain ⟨u, v, rfl⟩ := two_us el
    have g0 : G K [] H ((some (.sh x), some u) :: (some (.sh t), some v) :: L) := g
    cases ht : x.ty with
    | none => rw [ht] at e; cases e
    | some ty =>
      rw [ht] at e
      cases hb : t.asTy with
      | none => simp only [Option.bind_some, hb] at e; cases e
      | some b =>
        simp only [Option.bind_some, hb] at e
        cases e
        obtain ⟨e1, n1⟩ := asTy_some hb
        subst e1
        have ev : v = .ty b.name := g0.tail.rep
        subst ev
        exact .inl ⟨u, _, _, _, _, rfl, .ty b.name, g0.rep.ty ht, kit_ty (Ty.kit ty b n1), q _ H (g0.tail.tail.flat fun Z => rfl)⟩
  · cases e
theorem se_isinstance (hg : Gl X "isinstance") (hm : X.mg "isinstance" = none) (ha : SA X W (a :: es) mas) (he : starEach (a :: es) X.env = (false, eval a X.env) :: starEach es X.env := by rfl) (hpl : (backTo pos (starEach es X.env)).any (·.1) = false := by rfl) : SE X W (.Call (.Name "isinstance" p) (a :: es) [] pos) (mCB isiF mas) :=
  se_callB (CallR.or call_isi (CallR.or call_isiT call_isiK)) isiF_ok hg hm (by decide +kernel) ha (by decide) (by decide) he hpl
/-- a built-in type's name -/
theorem se_ty (t : Ty) (hg : Gl X x) (hm : X.mg x = none) (hv : bootBuiltins x = some (.type t.name)) (hn : x ≠ "__name__" := by decide) (hd : (x == ("__debug__" : Str)) = false := by decide) : SE X W (.Name x pos) (M.ret (.sh (tyD t))) :=
  se_flat (v := .ty t.name) (pe_bltn hg hm hv (by exact rfl) hn hd) fun _ _ => rfl

/-! ### int, str, list, tuple, all -/
def intF : D → Option O
  | .int i => some (.sh (.int i))
  | .bl k => some (.sh (.int (if k then 1 else 0)))
  | .str s => if s.length ≤ 640 then (PySem.intText? s).map fun n => .sh (.int n) else none
  | _ => none
theorem intF_ok : COk K (fun xs H Q => ((∃ i, xs = [.int i] ∧ Q (.int i) H) ∨ ∃ k, xs = [.bl k] ∧ Q (.int (if k then 1 else 0)) H) ∨ ∃ a n, xs = [.str a] ∧ PySem.intText? a = some n ∧ a.length ≤ 640 ∧ Q (.int n) H) (c1 intF) := c1_ok fun x o u H L Q e g q => by
  unfold intF at e
  split at e
  · cases e; exact .inl (.inl ⟨_, by rw [show u = _ from g.rep], q _ H (g.tail.flat fun Z => rfl)⟩)
  · cases e; exact .inl (.inr ⟨_, by rw [show u = _ from g.rep], q _ H (g.tail.flat fun Z => rfl)⟩)
  · rename_i s
    split at e
    · rename_i hc
      obtain ⟨n, hn, rfl⟩ := Option.map_eq_some_iff.mp e
      exact .inr ⟨s, n, by rw [show u = _ from g.rep], hn, hc, q _ H (g.tail.flat fun Z => rfl)⟩
    · cases e
  · cases e
theorem se_int1 (hg : Gl X "int") (hm : X.mg "int" = none) (ha : SE X W a ma) (na : starEach [a] X.env = (false, eval a X.env) :: starEach [] X.env := by rfl) (hpl : (backTo pos (starEach [] X.env)).any (·.1) = false := by rfl) : SE X W (.Call (.Name "int" p) [a] [] pos) (mCB (c1 intF) (mCons ma (M.ret []))) :=
  se_callTy (CallR.or call_int1 call_int_str) intF_ok hg hm (by decide +kernel) (sa_cons ha sa_nil na) (by decide) (by decide) na hpl
def strF : D → Option O
  | .int i => if i.natAbs.log2 < 1920 then some (.sh (.str (toString i))) else none
  | .str s => some (.sh (.str s))
  | _ => none
theorem call_str_str : CallR X (.type "str") (fun xs H Q => ∃ s, xs = [.str s] ∧ Q (.str s) H) := by
  intro pins s σ H xs us Q I r h
  obtain ⟨z, rfl, q⟩ := h
  obtain ⟨u, rfl, t, rfl⟩ := vals1 r
  exact PySem.P.str_of_str ⟨.str z, H, I, ⟨_, rfl⟩, q⟩
theorem strF_ok : COk K (fun xs H Q => (∃ i, xs = [.int i] ∧ i.natAbs.log2 < 1920 ∧ Q (.str (toString i)) H) ∨ ∃ s, xs = [.str s] ∧ Q (.str s) H) (c1 strF) := c1_ok fun x o u H L Q e g q => by
  unfold strF at e
  split at e
  · rename_i i
    split at e
    · rename_i hc
      cases e
      exact .inl ⟨i, by rw [show u = _ from g.rep], hc, q _ H (g.tail.flat fun Z => rfl)⟩
    · cases e
  · cases e; exact .inr ⟨_, by rw [show u = _ from g.rep], q _ H (g.tail.flat fun Z => rfl)⟩
  · cases e
theorem se_str1 (hg : Gl X "str") (hm : X.mg "str" = none) (ha : SE X W a ma) (na : starEach [a] X.env = (false, eval a X.env) :: starEach [] X.env := by rfl) (hpl : (backTo pos (starEach [] X.env)).any (·.1) = false := by rfl) : SE X W (.Call (.Name "str" p) [a] [] pos) (mCB (c1 strF) (mCons ma (M.ret []))) :=
  se_callTy (CallR.or call_str_int call_str_str) strF_ok hg hm (by decide +kernel) (sa_cons ha sa_nil na) (by decide) (by decide) na hpl
def listF : D → Option O
  | .lst xs => some (.lst (xs.map .sh))
  | .tup xs => some (.lst (xs.map .sh))
  | .str s => if s.length ≤ sizeLine then some (.lst ((signsD s).map .sh)) else none
  | _ => none
def rListS : List V → Hp → VK → Prop := fun xs H Q => ∃ s, xs = [.str s] ∧ s.length ≤ sizeLine ∧ ∀ l, H l = none → Q (.ref l) (upd H l (.lst (s.cps.toList.map fun c => V.str ⟨#[c]⟩)))
theorem call_listS (hc : X.calm = true) : CallR X (.type "list") rListS := by
  intro pins s σ H xs us Q I r h
  obtain ⟨z, rfl, hz, q⟩ := h
  obtain ⟨u, rfl, t, rfl⟩ := vals1 r
  refine call_list_str (I.ok.hd hc) z t (hn := hz) fun h' tk acc' c' hk hS hacc => ?_
  refine ⟨.ref s.heap.objs.size, _, I.laid (t' := tk) hk (Nat.le_refl _) (show ObjOk X.prog X.w (upd H s.heap.objs.size (.lst (z.cps.toList.map fun c => V.str ⟨#[c]⟩))) h' s.heap.objs.size (.lst (z.cps.toList.map fun c => V.str ⟨#[c]⟩)) from ?_), rfl, q _ (I.hok.fresh (Nat.le_refl _))⟩
  refine ⟨by rw [List.length_map, Array.length_toList]; exact hz, acc'.toList, c', ?_, by simpa using hS⟩
  have aux : ∀ (l : List Nat) (vs : List Value), l.length = vs.length → (∀ (j : Nat) (v : Value), vs[j]? = some v → ∃ c : Nat, l[j]? = some c ∧ ∃ t, v = Value.str ⟨#[c]⟩ t) → Vals (l.map fun c => V.str ⟨#[c]⟩) vs := by
    intro l
    induction l with
    | nil => intro vs h _; rw [List.length_eq_zero_iff.mp h.symm]; exact .nil
    | cons c l ih =>
      intro vs h h2
      cases vs with
      | nil => simp at h
      | cons v vs =>
        obtain ⟨c', e1, t, e2⟩ := h2 0 v rfl
        simp at e1
        subst e1
        exact .cons ⟨t, e2⟩ (ih vs (by simpa using h) fun j w hw => h2 (j + 1) w (by simpa using hw))
  refine aux _ _ (by simp [hacc.1]) fun j v hv => ?_
  have hj : acc'[j]? = some v := by simpa using hv
  obtain ⟨c, t, h1, h2⟩ := hacc.2 j v hj
  exact ⟨c, by simpa using h1, t, h2⟩
theorem vals_signs {H : Hp} {L : List Item} (g : G K [] H L) (s : Str) : G K [] H (its ((signsD s).map .sh) (s.cps.toList.map fun c => V.str ⟨#[c]⟩) ++ L) := by
  unfold signsD
  generalize s.cps.toList = l
  induction l with
  | nil => exact g
  | cons c l ih => exact ih.flat fun Z => rfl
theorem listF_ok : COk K (fun xs H Q => (∃ p ys, xs = [.ref p] ∧ (SqL K H p ys ∨ SqT K H p ys) ∧ ∀ l, H l = none → Q (.ref l) (upd H l (.lst ys))) ∨ rListS xs H Q) (c1 listF) := c1_ok fun x o u H L Q e g q => by
  unfold listF at e
  split at e
  · cases e
    obtain ⟨a, vs, rfl, hH, n, el, g1⟩ := g.lstI
    exact .inl ⟨a, vs, rfl, .inl (.inl (.inl hH)), fun l nl => q _ _ (G.newL ((g1.perm List.perm_middle).tail) (by simpa using el) n nl)⟩
  · cases e
    obtain ⟨a, vs, rfl, hT, n, el, g1⟩ := g.tupI
    exact .inl ⟨a, vs, rfl, .inr hT, fun l nl => q _ _ (G.newL ((g1.perm List.perm_middle).tail) (by simpa using el) n nl)⟩
  · rename_i s
    split at e
    · rename_i hc
      cases e
      exact .inr ⟨s, by rw [show u = _ from g.rep], hc, fun l nl => q _ _ (G.newL (vals_signs g.tail s) (by simp [signsD]) (by rw [List.length_map, Array.length_toList]; exact hc) nl)⟩
    · cases e
  · cases e
theorem se_list1 (hc : X.calm = true) (hg : Gl X "list") (hm : X.mg "list" = none) (ha : SE X W a ma) (na : starEach [a] X.env = (false, eval a X.env) :: starEach [] X.env := by rfl) (hpl : (backTo pos (starEach [] X.env)).any (·.1) = false := by rfl) : SE X W (.Call (.Name "list" p) [a] [] pos) (mCB (c1 listF) (mCons ma (M.ret []))) :=
  se_callTy (CallR.or call_list_of (call_listS hc)) listF_ok hg hm (by decide +kernel) (sa_cons ha sa_nil na) (by decide) (by decide) na hpl
def tupF : D → Option O
  | .lst xs => some (.sh (.tup xs))
  | .tup xs => some (.sh (.tup xs))
  | _ => none
theorem tupF_ok : COk K (fun xs H Q => ∃ p ys, xs = [.ref p] ∧ ((SqL K H p ys ∧ ∀ l, H l = none → Q (.ref l) (upd H l (.tup ys))) ∨ (SqT K H p ys ∧ Q (.ref p) H))) (c1 tupF) := c1_ok fun x o u H L Q e g q => by
  unfold tupF at e
  split at e
  · cases e
    obtain ⟨a, vs, rfl, hH, n, el, g1⟩ := g.lstI
    exact ⟨a, vs, rfl, .inl ⟨.inl (.inl hH), fun l nl => q _ _ (G.newTs ((g1.perm List.perm_middle).tail) el n nl)⟩⟩
  · cases e
    obtain ⟨a, vs, e1, hT, n, el, g1⟩ := g.tupI
    subst e1
    exact ⟨a, vs, rfl, .inr ⟨hT, q _ _ g⟩⟩
  · cases e
theorem se_tuple1 (hg : Gl X "tuple") (hm : X.mg "tuple" = none) (ha : SE X W a ma) (na : starEach [a] X.env = (false, eval a X.env) :: starEach [] X.env := by rfl) (hpl : (backTo pos (starEach [] X.env)).any (·.1) = false := by rfl) : SE X W (.Call (.Name "tuple" p) [a] [] pos) (mCB (c1 tupF) (mCons ma (M.ret []))) :=
  se_callTy call_tuple_of tupF_ok hg hm (by decide +kernel) (sa_cons ha sa_nil na) (by decide) (by decide) na hpl
def D.asBl : D → Option Bool
  | .bl k => some k
  | _ => none
def allF : D → Option O
  | .lst xs => (xs.mapM D.asBl).map fun bs => .sh (.bl (bs.all id))
  | _ => none
theorem mapM_bls : ∀ {ts : List D} {bs : List Bool}, ts.mapM D.asBl = some bs → ts = bs.map D.bl
  | [], bs, h => by simp at h; subst h; rfl
  | t :: ts, bs, h => by
    rw [List.mapM_cons] at h
    cases h1 : t.asBl with
    | none => rw [h1] at h; cases h
    | some b =>
      cases h2 : ts.mapM D.asBl with
      | none => rw [h1, h2] at h; cases h
      | some bs' =>
        rw [h1, h2] at h
        cases h
        rw [mapM_bls h2]
        cases t <;> first | (cases h1; rfl) | cases h1
theorem reps_bls {H : Hp} {Z : List Addr} : ∀ {bs : List Bool} {vs : List V}, RepDs K H Z (bs.map D.bl) vs → vs = bs.map V.bl
  | [], vs, h => h
  | b :: bs, vs, h => by
    obtain ⟨v, r, e, h1, h2⟩ := h
    rw [e, reps_bls h2, show v = V.bl b from h1]; rfl
theorem allF_ok : COk K (rAll K) (c1 allF) := c1_ok fun x o u H L Q e g q => by
  unfold allF at e
  split at e
  · rename_i xs
    obtain ⟨bs, hb, rfl⟩ := Option.map_eq_some_iff.mp e
    have ex := mapM_bls hb
    subst ex
    obtain ⟨a, vs, rfl, hH, n, el, F, hs, _⟩ := g.lst
    have ev := reps_bls hs
    subst ev
    exact ⟨a, bs, rfl, .inl (.inl hH), q _ H (g.tail.flat fun Z => rfl)⟩
  · cases e
theorem se_all (hc : X.calm = true) (hg : Gl X "all") (hm : X.mg "all" = none) (ha : SE X W a ma) (na : starEach [a] X.env = (false, eval a X.env) :: starEach [] X.env := by rfl) (hpl : (backTo pos (starEach [] X.env)).any (·.1) = false := by rfl) : SE X W (.Call (.Name "all" p) [a] [] pos) (mCB (c1 allF) (mCons ma (M.ret []))) :=
  se_callB (cr_all hc) allF_ok hg hm (by decide +kernel) (sa_cons ha sa_nil na) (by decide) (by decide) na hpl

/-! ### methods of texts -/
def D.asS : D → Option Str
  | .str s => some s
  | _ => none
theorem RepD.asS {H : Hp} {Z : List Addr} {d : D} {v : V} {s : Str} (h : RepD K H Z d v) (e : d.asS = some s) : v = .str s := by
  cases d <;> first | (cases e; exact h) | cases e
def mStr1 (f : Str → D → Option O) (mo me : M O) : M O := mo.bind fun x => (ofG x.er.asS).bind fun s => me.bind fun y => ofOpt (f s y.er)
def S1Ok (K : PySem.W.Frag) (r : V → List V → Hp → VK → Prop) (f : Str → D → Option O) : Prop := ∀ (s : Str) (y : D) (o : O) (v : V) (H : Hp) (L : List Item) (Q : VK), f s y = some o → G K [] H ((some (.sh y), some v) :: L) → (∀ w H', G K [] H' ((some o, some w) :: L) → Q w H') → r (.str s) [v] H Q
theorem se_str_m1 {id : String} {name : Str} {apos : Pos} {r : V → List V → Hp → VK → Prop} {f : Str → D → Option O} (slot : Slot "str" name id) (ty : typeOf (.builtin id) = pure (.type "method_descriptor")) (rule : MtR X id r) (hf : S1Ok X.K r f) (ho : SE X W a ma) (he : SE X W b mb)
    (hs : starEach [b] X.env = [(false, eval b X.env)] := by rfl) (hbase : attributeBase a name X.env (eval a X.env) = eval a X.env := by rfl) (hline : (apos.endLine == pos.line) = true := by rfl) : SE X W (.Call (.Attribute a name apos) [b] [] pos) (mStr1 f ma mb) := by
  refine ⟨PE.imp (pe_m1 slot ty rule ho.pe he.pe hs hbase hline) fun σ H Q h => ?_, ho.len.bind fun _ => Len.ofG.bind fun _ => he.len.bind fun _ => Len.opt⟩
  obtain ⟨e, L, hl, g, h⟩ := h
  refine ⟨e, L, hl, g, h.bind.mono fun o e1 q1 ⟨_, h1⟩ v H1 g1 => ?_⟩
  cases hS : o.er.asS with
  | none => rw [hS] at h1; exact h1.elim
  | some s =>
    rw [hS] at h1
    have ev := g1.er.rep.asS hS
    subst ev
    refine ⟨⟨s, rfl⟩, e1, L, (ho.len.1 _ _ _ q1).trans hl, g1.tail, ?_⟩
    have h1 : Post X.K X.mg W σ L ((mb.bind fun y => ofOpt (f s y.er)) e1) _ := h1
    refine h1.bind.mono fun y e2 q2 ⟨_, h2⟩ v2 H2 g2 => ?_
    cases hq : f s y.er with
    | none => rw [hq] at h2; exact h2.elim
    | some o' => rw [hq] at h2; exact hf s _ o' v2 H2 _ Q hq g2.er h2
def splitF (s : Str) : D → Option O
  | .str t => if (t.length == 0) = false ∧ s.length + 2 ≤ sizeLine ∧ (Txt.split s t).length ≤ sizeLine then some (.lst ((Txt.split s t).map fun z => .sh (.str z))) else none
  | _ => none
theorem strs_items {H : Hp} {L : List Item} (g : G K [] H L) : ∀ zs : List Str, G K [] H (its (zs.map fun z => O.sh (.str z)) (zs.map V.str) ++ L)
  | [] => g
  | z :: zs => (strs_items g zs).flat fun Z => rfl
theorem splitF_ok : S1Ok K (fun x xs H Q => ∃ a b, x = .str a ∧ xs = [.str b] ∧ (b.length == 0) = false ∧ a.length + 2 ≤ sizeLine ∧ rNewStrs (Txt.split a b) H Q) splitF := by
  intro s y o v H L Q e g q
  unfold splitF at e
  split at e
  · rename_i t
    split at e
    · rename_i hc
      cases e
      exact ⟨s, t, rfl, by rw [show v = _ from g.rep], hc.1, hc.2.1, fun p np => q _ _ (G.newL (strs_items g.tail _) (by simp) (by simpa using hc.2.2) np)⟩
    · cases e
  · cases e
theorem se_split {apos : Pos} (ho : SE X W a ma) (he : SE X W b mb) (hs : starEach [b] X.env = [(false, eval b X.env)] := by rfl) (hbase : attributeBase a "split" X.env (eval a X.env) = eval a X.env := by rfl) (hline : (apos.endLine == pos.line) = true := by rfl) : SE X W (.Call (.Attribute a "split" apos) [b] [] pos) (mStr1 splitF ma mb) :=
  se_str_m1 F.slot_str_split F.type_str_split mt_split splitF_ok ho he hs hbase hline
def joinF (s : Str) : D → Option O
  | .lst xs => (xs.mapM D.asS).bind fun zs => if (zs.map (·.length)).sum + zs.length * s.length ≤ 16777216 then some (.sh (.str (Txt.join s zs))) else none
  | .tup xs => (xs.mapM D.asS).bind fun zs => if (zs.map (·.length)).sum + zs.length * s.length ≤ 16777216 then some (.sh (.str (Txt.join s zs))) else none
  | _ => none
theorem mapM_strs : ∀ {ts : List D} {bs : List Str}, ts.mapM D.asS = some bs → ts = bs.map D.str
  | [], bs, h => by simp at h; subst h; rfl
  | t :: ts, bs, h => by
    rw [List.mapM_cons] at h
    cases h1 : t.asS with
    | none => rw [h1] at h; cases h
    | some b =>
      cases h2 : ts.mapM D.asS with
      | none => rw [h1, h2] at h; cases h
      | some bs' =>
        rw [h1, h2] at h
        cases h
        rw [mapM_strs h2]
        cases t <;> first | (cases h1; rfl) | cases h1
theorem reps_strs {H : Hp} {Z : List Addr} : ∀ {bs : List Str} {vs : List V}, RepDs K H Z (bs.map D.str) vs → vs = bs.map V.str
  | [], vs, h => h
  | b :: bs, vs, h => by
    obtain ⟨v, r, e, h1, h2⟩ := h
    rw [e, reps_strs h2, show v = V.str b from h1]; rfl
theorem joinF_ok : S1Ok K (fun x xs H Q => ∃ a p, ∃ ys : List Str, x = .str a ∧ xs = [.ref p] ∧ (SqL K H p (ys.map V.str) ∨ SqT K H p (ys.map V.str)) ∧ (ys.map (·.length)).sum + ys.length * a.length ≤ 16777216 ∧ Q (.str (Txt.join a ys)) H) joinF := by
  intro s y o v H L Q e g q
  unfold joinF at e
  split at e
  · rename_i xs
    obtain ⟨zs, hz, e⟩ := Option.bind_eq_some_iff.mp e
    split at e
    · rename_i hc
      cases e
      have ex := mapM_strs hz
      subst ex
      obtain ⟨a, vs, rfl, hH, n, el, F, hs, _⟩ := g.lst
      have ev := reps_strs hs
      subst ev
      exact ⟨s, a, zs, rfl, rfl, .inl (.inl (.inl hH)), hc, q _ H (g.tail.flat fun Z => rfl)⟩
    · cases e
  · rename_i xs
    obtain ⟨zs, hz, e⟩ := Option.bind_eq_some_iff.mp e
    split at e
    · rename_i hc
      cases e
      have ex := mapM_strs hz
      subst ex
      obtain ⟨a, vs, rfl, hT, n, el, F, hs, _⟩ := g.tupl
      have ev := reps_strs hs
      subst ev
      exact ⟨s, a, zs, rfl, rfl, .inr hT, hc, q _ H (g.tail.flat fun Z => rfl)⟩
    · cases e
  · cases e
theorem se_join {apos : Pos} (ho : SE X W a ma) (he : SE X W b mb) (hs : starEach [b] X.env = [(false, eval b X.env)] := by rfl) (hbase : attributeBase a "join" X.env (eval a X.env) = eval a X.env := by rfl) (hline : (apos.endLine == pos.line) = true := by rfl) : SE X W (.Call (.Attribute a "join" apos) [b] [] pos) (mStr1 joinF ma mb) :=
  se_str_m1 F.slot_str_join F.type_str_join mt_join joinF_ok ho he hs hbase hline

/-! ### a name's list, changed in place -/
def O.asLst : O → Option (List O)
  | .lst os => some os
  | _ => none
theorem asLst_some {o : O} {os : List O} (h : o.asLst = some os) : o = .lst os := by
  cases o <;> first | (cases h; rfl) | cases h
/-- x.append(e) -/
def mAppend (i : Nat) (me : M O) : M O := slotM i fun l => (ofG l.asLst).bind fun _ => me.bind fun o => slotM i fun l => (ofG l.asLst).bind fun os => if os.length < sizeLine then fun e => .ok (.sh .non) (e.set i (some (.lst (os ++ [o])))) else M.no
theorem Len.append {i : Nat} {me : M O} (h : Len me) : Len (mAppend i me) := Len.slot fun _ => Len.ofG.bind fun _ => h.bind fun _ => Len.slot fun _ => Len.ofG.bind fun _ => Len.dite Len.set Len.no
theorem se_append (i : Nat) {y : Str} {p' apos : Pos} (he : SE X W b mb) (hN : X.N[i]? = some y := by rfl) (hv : Vis X.env.scope y := by first | exact Or.inl rfl | exact Or.inr (Or.inl rfl) | exact Or.inr (Or.inr rfl)) (hd : (y == ("__debug__" : Str)) = false := by decide) (hcd : (y == ("__classdict__" : Str)) = false := by decide)
    (nb : starEach [b] X.env = (false, eval b X.env) :: starEach [] X.env := by rfl) (hbase : attributeBase (.Name y p') "append" X.env (eval (.Name y p') X.env) = eval (.Name y p') X.env := by rfl)
    (hfew : ((backTo pos (starEach [b] X.env)).all (fun x => !x.1) && (backToKw pos (keywordEach [] X.env)).all (fun x => x.1.isSome) && decide ([b].length + ([] : List Keyword).length + (if ([] : List Keyword).isEmpty then 0 else 1) < 30)) = true := by rfl)
    (hline : (apos.endLine == pos.line) = true := by rfl) (hplain : (backTo pos (starEach [] X.env)).any (·.1) = false := by rfl) : SE X W (.Call (.Attribute (.Name y p') "append" apos) [b] [] pos) (mAppend i mb) := by
  refine ⟨PE.imp (pe_bm F.plainAttrs_list F.slot_list_append F.type_list_append mt_append (pe_var hN hv hd hcd) (sa_cons he sa_nil nb).pa hbase hfew hline nb hplain) fun σ H Q h => ?_, Len.append he.len⟩
  obtain ⟨e, L, hl, g, h⟩ := h
  obtain ⟨o, ho, h⟩ := Post.slot h
  obtain ⟨v, hv⟩ := slot_val ho hl g
  cases hL : o.asLst with
  | none => rw [hL] at h; exact h.elim
  | some os0 =>
    rw [hL] at h
    have eo := asLst_some hL
    subst eo
    obtain ⟨D, acc, ev, hn, hD, el, _⟩ := (g.take ho hv).openL
    subst ev
    refine ⟨.ref D, hv, .inl ⟨rfl, acc, .inl (.inl hD)⟩, e, L, hl, g, ?_⟩
    have h : Post X.K X.mg W σ L ((mb.bind fun o => slotM i fun l => (ofG l.asLst).bind fun os => if os.length < sizeLine then fun e => R.ok (O.sh .non) (e.set i (some (.lst (os ++ [o])))) else M.no) e) _ := h
    unfold mCons
    have hb := h.bind
    unfold M.bind
    cases q : mb e with
    | no => rw [q] at hb; exact hb.elim
    | exc c fs e1 => rw [q] at hb; exact hb
    | ok o1 e1 =>
      rw [q] at hb
      obtain ⟨_, h1⟩ := (show _ ∧ _ from hb)
      refine fun (vs : List V) (H1 : Hp) (el1 : [o1].length = vs.length) g1 => ?_
      match vs, el1, g1 with
      | [w], _, g1 =>
        have l1 := (he.len.1 _ _ _ q).trans hl
        have g2 : G X.K [] H1 ((some o1, some w) :: (e1.zip σ ++ L)) := g1
        obtain ⟨o2, ho2, h2⟩ := Post.slot h1
        cases hL2 : o2.asLst with
        | none => rw [hL2] at h2; exact h2.elim
        | some os =>
          rw [hL2] at h2
          have eo2 := asLst_some hL2
          subst eo2
          have h2 : Post X.K X.mg W σ L ((if os.length < sizeLine then fun e => R.ok (O.sh .non) (e.set i (some (.lst (os ++ [o1])))) else M.no) e1) _ := h2
          have hz : os.length < sizeLine := by
            apply Classical.byContradiction
            intro z
            rw [if_neg z] at h2
            exact h2
          rw [if_pos hz] at h2
          have g3 : G X.K [] H1 (e1.zip σ ++ ((some o1, some w) :: L)) := g2.perm List.perm_middle.symm
          have g4 := g3.take ho2 hv
          have g5 : G X.K [] H1 ((some o1, some w) :: (some (.lst os), some (.ref D)) :: ((e1.set i none).zip σ ++ L)) := g4.perm ((List.Perm.cons _ List.perm_middle).trans (List.Perm.swap _ _ _))
          obtain ⟨D', acc', eD, hD', el', pushed⟩ := g5.push
          cases eD
          refine ⟨D, acc', w, rfl, rfl, hD', by omega, ?_⟩
          have g6 := pushed (by omega)
          have g7 := G.put' ho2 hv g6
          exact h2 _ _ (g7.flat fun Z => rfl)
/-- x.pop(): the last one -/
def mPop (i : Nat) : M O := slotM i fun l => (ofG l.asLst).bind fun os => match os.getLast? with
  | some o => fun e => .ok o (e.set i (some (.lst os.dropLast)))
  | none => M.no
/-- x.pop(e) -/
def mPopAt (i : Nat) (b : Bool) (me : M O) : M O := slotM i fun l => (ofG l.asLst).bind fun _ => me.bind fun o => (ofG o.er.asI).bind fun k => slotM i fun l => (ofG l.asLst).bind fun os =>
  if 0 ≤ k ∧ k < 2 ^ 63 then match os[k.toNat]? with
    | some x => fun e => .ok (frz b x) (e.set i (some (.lst (os.eraseIdx k.toNat))))
    | none => M.no
  else M.no
theorem G.pull {K : PySem.W.Frag} {H : Hp} {L : List Item} {v : V} {os : List O} {k : Nat} {x : O} (g : G K [] H ((some (.lst os), some v) :: L)) (h : os[k]? = some x) :
    ∃ D acc y, v = .ref D ∧ H D = some (.lst acc) ∧ acc.length = os.length ∧ acc[k]? = some y ∧ G K [] (upd H D (.lst (acc.eraseIdx k))) ((some x, some y) :: (some (.lst (os.eraseIdx k)), some v) :: L) := by
  obtain ⟨D, acc, e, n, hD, el, g1⟩ := g.openL
  subst e
  have hk : k < os.length := (List.getElem?_eq_some_iff.mp h).1
  have hk2 : k < acc.length := by omega
  refine ⟨D, acc, acc[k], rfl, hD, el.symm, List.getElem?_eq_getElem hk2, ?_⟩
  have aux : ∀ {os : List O} {acc : List V} {k : Nat} {x : O} {y : V} {L : List Item}, os[k]? = some x → acc[k]? = some y → (its os acc ++ L).Perm ((some x, some y) :: (its (os.eraseIdx k) (acc.eraseIdx k) ++ L)) := by
    intro os
    induction os with
    | nil => intro acc k x y L h; simp at h
    | cons o os ih =>
      intro acc k x y L h h2
      cases acc with
      | nil => simp at h2
      | cons a acc =>
        cases k with
        | zero => simp at h h2; subst h h2; exact List.Perm.refl _
        | succ k =>
          have := ih (acc := acc) (k := k) (x := x) (y := y) (L := L) (by simpa using h) (by simpa using h2)
          exact (List.Perm.cons _ this).trans (List.Perm.swap _ _ _)
  have g2 := g1.perm (aux h (List.getElem?_eq_getElem hk2))
  have g3 : G K [D] (upd H D (.lst (acc.eraseIdx k))) (its (os.eraseIdx k) (acc.eraseIdx k) ++ ((some x, some acc[k]) :: L)) := g2.write.perm List.perm_middle.symm
  have lo : (os.eraseIdx k).length = (acc.eraseIdx k).length := by rw [List.length_eraseIdx_of_lt hk, List.length_eraseIdx_of_lt hk2, el]
  exact (g3.closeL lo (Nat.le_trans (List.length_eraseIdx_le _ _) n) upd_same).perm (List.Perm.swap _ _ _)
theorem se_popAt (i : Nat) (fb : Bool) {y : Str} {p' apos : Pos} (he : SE X W b mb) (hN : X.N[i]? = some y := by rfl) (hv : Vis X.env.scope y := by first | exact Or.inl rfl | exact Or.inr (Or.inl rfl) | exact Or.inr (Or.inr rfl)) (hd : (y == ("__debug__" : Str)) = false := by decide) (hcd : (y == ("__classdict__" : Str)) = false := by decide)
    (nb : starEach [b] X.env = (false, eval b X.env) :: starEach [] X.env := by rfl) (hbase : attributeBase (.Name y p') "pop" X.env (eval (.Name y p') X.env) = eval (.Name y p') X.env := by rfl)
    (hfew : ((backTo pos (starEach [b] X.env)).all (fun x => !x.1) && (backToKw pos (keywordEach [] X.env)).all (fun x => x.1.isSome) && decide ([b].length + ([] : List Keyword).length + (if ([] : List Keyword).isEmpty then 0 else 1) < 30)) = true := by rfl)
    (hline : (apos.endLine == pos.line) = true := by rfl) (hplain : (backTo pos (starEach [] X.env)).any (·.1) = false := by rfl) : SE X W (.Call (.Attribute (.Name y p') "pop" apos) [b] [] pos) (mPopAt i fb mb) := by
  refine ⟨PE.imp (pe_bm F.plainAttrs_list F.slot_list_pop F.type_list_pop mt_popAt (pe_var hN hv hd hcd) (sa_cons he sa_nil nb).pa hbase hfew hline nb hplain) fun σ H Q h => ?_, Len.slot fun _ => Len.ofG.bind fun _ => he.len.bind fun _ => Len.ofG.bind fun _ => Len.slot fun _ => Len.ofG.bind fun _ => Len.dite (by split <;> first | exact Len.set | exact Len.no) Len.no⟩
  obtain ⟨e, L, hl, g, h⟩ := h
  obtain ⟨o, ho, h⟩ := Post.slot h
  obtain ⟨v, hv⟩ := slot_val ho hl g
  cases hL : o.asLst with
  | none => rw [hL] at h; exact h.elim
  | some os0 =>
    rw [hL] at h
    have eo := asLst_some hL
    subst eo
    obtain ⟨D, acc, ev, hn, hD, el, _⟩ := (g.take ho hv).openL
    subst ev
    refine ⟨.ref D, hv, .inl ⟨rfl, acc, .inl (.inl hD)⟩, e, L, hl, g, ?_⟩
    have h : Post X.K X.mg W σ L ((mb.bind fun o => (ofG o.er.asI).bind fun k => slotM i fun l => (ofG l.asLst).bind fun os => if 0 ≤ k ∧ k < 2 ^ 63 then match os[k.toNat]? with
    | some x => fun e => R.ok (frz fb x) (e.set i (some (.lst (os.eraseIdx k.toNat))))
    | none => M.no
  else M.no) e) _ := h
    unfold mCons
    have hb := h.bind
    unfold M.bind
    cases q : mb e with
    | no => rw [q] at hb; exact hb.elim
    | exc c fs e1 => rw [q] at hb; exact hb
    | ok o1 e1 =>
      rw [q] at hb
      obtain ⟨_, h1⟩ := (show _ ∧ _ from hb)
      refine fun (vs : List V) (H1 : Hp) (el1 : [o1].length = vs.length) g1 => ?_
      match vs, el1, g1 with
      | [w], _, g1 =>
        have l1 := (he.len.1 _ _ _ q).trans hl
        have g2 : G X.K [] H1 ((some o1, some w) :: (e1.zip σ ++ L)) := g1
        cases hI : o1.er.asI with
        | none => rw [hI] at h1; exact h1.elim
        | some k =>
          rw [hI] at h1
          have ew := g2.er.rep.asI hI
          subst ew
          obtain ⟨o2, ho2, h2⟩ := Post.slot (show Post X.K X.mg W σ L (slotM i _ e1) _ from h1)
          cases hL2 : o2.asLst with
          | none => rw [hL2] at h2; exact h2.elim
          | some os =>
            rw [hL2] at h2
            have eo2 := asLst_some hL2
            subst eo2
            have h2 : Post X.K X.mg W σ L ((if 0 ≤ k ∧ k < 2 ^ 63 then match os[k.toNat]? with
    | some x => fun e => R.ok (frz fb x) (e.set i (some (.lst (os.eraseIdx k.toNat))))
    | none => M.no
  else M.no) e1) _ := h2
            have hz : 0 ≤ k ∧ k < 2 ^ 63 := by
              apply Classical.byContradiction
              intro z
              rw [if_neg z] at h2
              exact h2
            rw [if_pos hz] at h2
            cases hx : os[k.toNat]? with
            | none => rw [hx] at h2; exact h2.elim
            | some x =>
              rw [hx] at h2
              have g4 := (g2.tail).take ho2 hv
              obtain ⟨D', acc', y', eD, hD', el', hy, g5⟩ := g4.pull hx
              cases eD
              have hk : k.toNat < os.length := (List.getElem?_eq_some_iff.mp hx).1
              refine ⟨D, acc', k, k.toNat, y', rfl, rfl, hD', by omega, hz.2, ?_, hy, ?_⟩
              · refine (ixN_seq (n := acc'.length) (i := k) (j := k.toNat) ?_).1
                unfold ixN
                rw [if_pos hz.1, if_pos (by omega)]
              · have g6 : G X.K [] (upd H1 D (.lst (acc'.eraseIdx k.toNat))) ((some (.lst (os.eraseIdx k.toNat)), some (.ref D)) :: ((e1.set i none).zip σ ++ ((some x, some y') :: L))) :=
                  g5.perm ((List.Perm.swap _ _ _).trans (List.Perm.cons _ List.perm_middle.symm))
                have g7 := G.put' ho2 hv g6
                have g8 : G X.K [] (upd H1 D (.lst (acc'.eraseIdx k.toNat))) ((some x, some y') :: ((e1.set i (some (.lst (os.eraseIdx k.toNat)))).zip σ ++ L)) := g7.perm List.perm_middle
                exact h2 _ _ (G.frz g8)
end
end Ow

set_option Elab.async false
set_option linter.all false
set_option maxRecDepth 100000
set_option maxHeartbeats 1000000
/-! Ow11: an empty dict; parts of an owned list by their place: read, stored, popped. -/
namespace Ow
open PySem PySem.Spec PyProof.Rows L2

section
variable {X : Cx} {W : WX} {io : List Nat} {a b : Expr} {ma mb : M O} {pos p : Pos} {x : Str} {K : PySem.W.Frag} {mg : Str → Option Value} {E : List Addr} {H : Hp} {L : List Item}
/-- {} -/
theorem se_dct0 : SE X W (.Dict [] [] pos) (M.ret (.sh (.dct [] []))) := by
  refine ⟨PE.imp pe_dnewK fun σ H Q h => ?_, Len.ret⟩
  obtain ⟨e, L, hl, g, h⟩ := h
  intro q nq
  refine h _ _ ?_
  obtain ⟨F, hr, nd⟩ := g.grow (H' := upd H q (.dK [])) (upd_grow nq)
  obtain ⟨F0, hr0, nd0⟩ := g
  have g2 := G.fresh (x := .dK []) ⟨F0, hr0, nd0⟩ nq (by simp)
  obtain ⟨F2, hr2, nd2⟩ := g2
  refine ⟨F2, ⟨[], F2, ⟨rfl, q, rfl, rfl, rfl, ?_, upd_same⟩, hr2.set fun b hb => ?_, rfl⟩, ?_⟩
  · rw [List.cons_append, List.nodup_cons] at nd2
    exact nd2.1
  · exact List.mem_cons_of_mem _ hb
  · rw [List.cons_append, List.nodup_cons] at nd2
    exact nd2.2
theorem its_at : ∀ {os : List O} {vs : List V} {i : Nat} {o : O} {v : V}, os[i]? = some o → vs[i]? = some v → ∃ A B : List Item, ∀ o' v', its (os.set i o') (vs.set i v') = A ++ (some o', some v') :: B
  | [], _, _, _, _, h, _ => by simp at h
  | _ :: _, [], _, _, _, _, h => by simp at h
  | z :: os, w :: vs, 0, _, _, _, _ => ⟨[], its os vs, fun _ _ => rfl⟩
  | z :: os, w :: vs, i + 1, o, v, h1, h2 => by
    obtain ⟨A, B, q⟩ := its_at (os := os) (vs := vs) (i := i) (by simpa using h1) (by simpa using h2)
    refine ⟨(some z, some w) :: A, B, fun o' v' => ?_⟩
    rw [List.set_cons_succ, List.set_cons_succ, its_cons, q o' v', List.cons_append]
/-- one of the items taken out; what stands in its place later is put back -/
theorem G.itsOut {os : List O} {vs : List V} {i : Nat} {o : O} {v : V} (h : os[i]? = some o) (h2 : vs[i]? = some v) (g : G K E H (its os vs ++ L)) :
    ∃ C, G K E H ((some o, some v) :: (C ++ L)) ∧ ∀ {E' : List Addr} {H' : Hp} {o' : O} {v' : V} {L' : List Item}, G K E' H' ((some o', some v') :: (C ++ L')) → G K E' H' (its (os.set i o') (vs.set i v') ++ L') := by
  obtain ⟨A, B, q⟩ := its_at h h2
  refine ⟨A ++ B, ?_, fun g' => ?_⟩
  · have q1 := q o v
    rw [set_id h, set_id h2] at q1
    rw [q1] at g
    refine g.perm ?_
    rw [List.append_assoc, List.cons_append, List.append_assoc]
    exact List.perm_middle
  · rw [q, List.append_assoc, List.cons_append]
    refine g'.perm ?_
    rw [List.append_assoc]
    exact List.perm_middle.symm
/-- two set-apart addresses are two -/
theorem G.ne2 {u w : Addr} (g : G K (u :: w :: E) H L) : u ≠ w := by
  obtain ⟨F, _, nd⟩ := g
  rw [List.cons_append, List.nodup_cons] at nd
  exact fun z => nd.1 (by rw [z]; exact List.mem_cons_self)
/-- a part, as shared data -/
def O.kid (o : O) (c : Nat) : Option D := match o with
  | .lst os => (match os[c]? with
    | some (.sh d) => some d
    | _ => none)
  | _ => none
theorem kid_some {o : O} {c : Nat} {d : D} (h : o.kid c = some d) : ∃ os, o = .lst os ∧ os[c]? = some (.sh d) := by
  unfold O.kid at h
  split at h
  · rename_i os
    split at h
    · rename_i d' hd
      cases h
      exact ⟨os, rfl, hd⟩
    · cases h
  · cases h
theorem its_get {os : List O} {vs : List V} {c : Nat} {o : O} (el : os.length = vs.length) (h : os[c]? = some o) : ∃ w, vs[c]? = some w := by
  have := (List.getElem?_eq_some_iff.mp h).1
  exact ⟨_, List.getElem?_eq_getElem (by omega)⟩
theorem G.kid {o : O} {v : V} {c : Nat} {d : D} (g : G K E H ((some o, some v) :: L)) (h : o.kid c = some d) :
    ∃ q vs w, v = .ref q ∧ H q = some (.lst vs) ∧ vs[c]? = some w ∧ G K E H ((some (.sh d), some w) :: (some o, some v) :: L) := by
  obtain ⟨os, rfl, hd⟩ := kid_some h
  obtain ⟨q, vs, rfl, hn, hq, el, g1⟩ := g.openL
  obtain ⟨w, hw⟩ := its_get el hd
  obtain ⟨C, g2, back⟩ := g1.itsOut hd hw
  refine ⟨q, vs, w, rfl, hq, hw, ?_⟩
  have g3 := g2.dup
  have g4 := back (L' := (some (.sh d), some w) :: L) (g3.perm (List.Perm.cons _ List.perm_middle.symm))
  rw [set_id hd, set_id hw] at g4
  exact (g4.closeL el hn hq).perm (List.Perm.swap _ _ _)
theorem ixN_nat {n c : Nat} (h : c < n) : ixN n (c : Int) = some c := by
  unfold ixN
  rw [if_pos (Int.natCast_nonneg c), if_pos (by omega)]
  all_goals first | rfl | simp
def mKid (i c : Nat) : M O := slotM i fun o => ofOpt ((o.kid c).map .sh)
theorem se_kid (i c : Nat) {j : Nat} {p p2 : Pos} (hN : X.N[i]? = some x := by rfl) (hv : Vis X.env.scope x := by first | exact Or.inl rfl | exact Or.inr (Or.inl rfl) | exact Or.inr (Or.inr rfl)) (hd : (x == ("__debug__" : Str)) = false := by decide) (hcd : (x == ("__classdict__" : Str)) = false := by decide) :
    SE X W (.Subscript (.Name x p) (.Constant (.int (c : Int)) j p2) pos) (mKid i c) := by
  refine ⟨PE.imp (pe_ix ix_seq (pe_var hN hv hd hcd) pe_int fun _ _ => rfl) fun σ H Q h => ?_, Len.slot fun _ => Len.opt⟩
  obtain ⟨e, L, hl, g, h⟩ := h
  obtain ⟨o, ho, h⟩ := Post.slot h
  obtain ⟨v, hv⟩ := slot_val ho hl g
  cases hk : o.kid c with
  | none => rw [hk] at h; exact h.elim
  | some d =>
    rw [hk] at h
    obtain ⟨q, vs, w, rfl, hq, hw, g1⟩ := (g.take ho hv).kid hk
    have hc := (List.getElem?_eq_some_iff.mp hw).1
    refine ⟨.ref q, hv, .inl ⟨q, vs, (c : Int), w, rfl, rfl, .inl (.inl hq), atI_of (ixN_nat hc) hw, h w H ?_⟩⟩
    have g2 : G X.K [] H ((some o, some (.ref q)) :: ((e.set i none).zip σ ++ ((some (.sh d), some w) :: L))) := (g1.perm (List.Perm.swap _ _ _)).perm (List.Perm.cons _ List.perm_middle.symm)
    have g3 := G.put' ho hv g2
    rw [set_id ho] at g3
    exact g3.perm List.perm_middle
/-- x[c] = .., x a name with an owned list -/
def gPut (i c : Nat) (b : Bool) (o : O) (e : Sl) : Option Sl := match e[i]? with
  | some (some (.lst os)) => if c < os.length then some (e.set i (some (.lst (os.set c (frz b o))))) else none
  | _ => none
theorem sg_put (i c : Nat) (b : Bool) {j : Nat} {p p2 : Pos} (hN : X.N[i]? = some x := by rfl) (hv : Vis X.env.scope x := by first | exact Or.inl rfl | exact Or.inr (Or.inl rfl) | exact Or.inr (Or.inr rfl)) (hd : (x == ("__debug__" : Str)) = false := by decide) (hcd : (x == ("__classdict__" : Str)) = false := by decide)
    (ha : ∀ v, assign (.Subscript (.Name x p) (.Constant (.int (c : Int)) j p2) pos) X.env v = (do
      let ov ← holding [v] (eval (.Name x p) X.env)
      let iv ← holding [v, ov] (eval (.Constant (.int (c : Int)) j p2) X.env)
      standAt pos
      holding [v, ov, iv] (setItem ov iv v)
      release [v, ov, iv] []) := by intro _; rfl) :
    SG X [] (.Subscript (.Name x p) (.Constant (.int (c : Int)) j p2) pos) (gPut i c b) := by
  refine ⟨PG.imp (pg_sub (pe_var hN hv hd hcd) pe_int set_list ha) fun v σ H Q h => ?_, fun o e e' h => ?_⟩
  · obtain ⟨e, L, o, hl, g, e', h1, h2⟩ := h
    unfold gPut at h1
    split at h1
    · rename_i os ho
      split at h1
      · rename_i hc
        cases h1
        have g0 : G X.K [] H (e.zip σ ++ ((some o, some v) :: L)) := g.perm List.perm_middle.symm
        obtain ⟨u, hu⟩ := slot_val ho hl g0
        obtain ⟨q, vs, rfl, hn, hq, el, g1⟩ := (g0.take ho hu).openL
        refine ⟨.ref q, hu, q, vs, (c : Int), c, rfl, rfl, hq, ixN_nat (by omega), ?_⟩
        obtain ⟨w, hw⟩ := its_get el (List.getElem?_eq_getElem hc)
        obtain ⟨C, g2, back⟩ := g1.itsOut (List.getElem?_eq_getElem hc) hw
        have g3 : G X.K [q] H ((some (frz b o), some v) :: (C ++ ((e.set i none).zip σ ++ L))) := by
          have g4 := g2.tail
          refine G.frz (g4.perm ?_)
          exact (List.Perm.append_left C List.perm_middle).trans List.perm_middle
        have g5 := back g3.write (H' := upd H q (.lst (vs.set c v)))
        have g6 := g5.closeL (by rw [List.length_set, List.length_set]; exact el) (by rw [List.length_set]; exact hn) upd_same
        exact h2 σ _ rfl agree.refl (G.put' ho hu g6)
      · cases h1
    · cases h1
  · unfold gPut at h
    split at h
    · split at h
      · cases h; simp
      · cases h
    · cases h
/-- x[c] != [] -/
def O.neNil (o : O) (c : Nat) : Option Bool := match o with
  | .lst os => (match os[c]? with
    | some k => (match k.er with
      | .lst xs => if (D.lst xs).eqb then some (!xs.isEmpty) else none
      | _ => none)
    | none => none)
  | _ => none
theorem neNil_some {o : O} {c : Nat} {k : Bool} (h : o.neNil c = some k) : ∃ os o' xs, o = .lst os ∧ os[c]? = some o' ∧ o'.er = .lst xs ∧ (D.lst xs).eqb = true ∧ k = !xs.isEmpty := by
  unfold O.neNil at h
  split at h
  · rename_i os
    split at h
    · rename_i o' ho
      split at h
      · rename_i xs hx
        split at h
        · rename_i he
          cases h
          exact ⟨os, o', xs, rfl, ho, hx, he, rfl⟩
        · cases h
      · cases h
    · cases h
  · cases h
def mNeNil (i c : Nat) : M Bool := slotM i fun o => ofOptB (o.neNil c)
theorem eqv_nil (xs : List PyData) : PyData.eqv (.list xs) (.list []) = xs.isEmpty := by
  cases xs <;> first | rfl | simp [PyData.eqv]
theorem st_neNil (i c : Nat) {j : Nat} {p p2 p3 p4 : Pos} (hu : X.A.units + 64 < cLine) (hN : X.N[i]? = some x := by rfl) (hv : Vis X.env.scope x := by first | exact Or.inl rfl | exact Or.inr (Or.inl rfl) | exact Or.inr (Or.inr rfl)) (hd : (x == ("__debug__" : Str)) = false := by decide) (hcd : (x == ("__classdict__" : Str)) = false := by decide) :
    ST X W (.Compare (.Subscript (.Name x p) (.Constant (.int (c : Int)) j p2) p3) [.NotEq] [.List [] p4] pos) (mNeNil i c) := by
  refine ⟨PT.imp (pt_cmpR (op_neD hu) (pe_ix ix_seq (pe_var hN hv hd hcd) pe_int fun _ _ => rfl) (pe_lst pa_nil) (nomark _)) fun σ H Q h => ?_, Len.slot fun _ => Len.optB⟩
  obtain ⟨e, L, hl, g, h⟩ := h
  obtain ⟨o, ho, h⟩ := Post.slot h
  obtain ⟨v, hv⟩ := slot_val ho hl g
  cases hk : o.neNil c with
  | none => rw [hk] at h; exact h.elim
  | some k =>
    rw [hk] at h
    obtain ⟨os, o', xs, rfl, ho', hx, he, rfl⟩ := neNil_some hk
    obtain ⟨q, vs, rfl, hn, hq, el, g1⟩ := (g.take ho hv).openL
    obtain ⟨w, hw⟩ := its_get el ho'
    have hc := (List.getElem?_eq_some_iff.mp hw).1
    refine ⟨.ref q, hv, .inl ⟨q, vs, (c : Int), w, rfl, rfl, .inl (.inl hq), atI_of (ixN_nat hc) hw, ?_⟩⟩
    refine ⟨Nat.zero_le _, fun n nn => ?_⟩
    obtain ⟨C, g2, _⟩ := g1.itsOut ho' hw
    have r : RepD X.K H [] (.lst xs) w := by
      have r' := g2.er.rep
      rwa [hx] at r'
    have r2 : RepD X.K (upd H n (.lst [])) [] (.lst xs) w := RepD.move (fun _ _ z _ => z) (fun b o _ e => upd_grow nn b o e) _ _ r
    have he2 := he
    unfold D.eqb at he2
    rw [Bool.and_eq_true] at he2
    refine ⟨_, .list [], RepD.dp (.lst xs) w he2.1 r2, .lst (.inl (.inl upd_same)) .nil, he2.2, by decide +kernel, ?_⟩
    refine ⟨!xs.isEmpty, ?_, h _ (g.grow (upd_grow nn))⟩
    show V.bl (!PyData.eqv (.list (D.pys xs)) (.list [])) = _
    rw [eqv_nil]
    cases xs <;> rfl
/-- x[c].pop(0) -/
def O.kidPop (o : O) (c : Nat) : Option (D × O) := match o with
  | .lst os => (match os[c]? with
    | some (.lst (y :: r)) => some (y.er, .lst (os.set c (.lst r)))
    | _ => none)
  | _ => none
theorem kidPop_some {o o' : O} {c : Nat} {d : D} (h : o.kidPop c = some (d, o')) : ∃ os y r, o = .lst os ∧ os[c]? = some (.lst (y :: r)) ∧ d = y.er ∧ o' = .lst (os.set c (.lst r)) := by
  unfold O.kidPop at h
  split at h
  · rename_i os
    split at h
    · rename_i y r hk
      cases h
      exact ⟨os, y, r, rfl, hk, rfl, rfl⟩
    · cases h
  · cases h
def mKidPop (i c : Nat) : M O := slotM i fun o => match o.kidPop c with
  | some z => fun e => .ok (.sh z.1) (e.set i (some z.2))
  | none => M.no
theorem Len.kidPop {i c : Nat} : Len (mKidPop i c) := Len.slot fun o => by
  split
  · exact Len.set
  · exact Len.no
theorem se_kidPop (i c : Nat) {j j2 : Nat} {p p2 p3 p4 apos : Pos} (hN : X.N[i]? = some x := by rfl) (hv : Vis X.env.scope x := by first | exact Or.inl rfl | exact Or.inr (Or.inl rfl) | exact Or.inr (Or.inr rfl)) (hd : (x == ("__debug__" : Str)) = false := by decide) (hcd : (x == ("__classdict__" : Str)) = false := by decide)
    (nb : starEach [.Constant (.int 0) j2 p4] X.env = (false, eval (.Constant (.int 0) j2 p4) X.env) :: starEach [] X.env := by rfl)
    (hbase : attributeBase (.Subscript (.Name x p) (.Constant (.int (c : Int)) j p2) p3) "pop" X.env (eval (.Subscript (.Name x p) (.Constant (.int (c : Int)) j p2) p3) X.env) = eval (.Subscript (.Name x p) (.Constant (.int (c : Int)) j p2) p3) X.env := by rfl)
    (hfew : ((backTo pos (starEach [.Constant (.int 0) j2 p4] X.env)).all (fun x => !x.1) && (backToKw pos (keywordEach [] X.env)).all (fun x => x.1.isSome) && decide ([Expr.Constant (.int 0) j2 p4].length + ([] : List Keyword).length + (if ([] : List Keyword).isEmpty then 0 else 1) < 30)) = true := by rfl)
    (hline : (apos.endLine == pos.line) = true := by rfl) (hplain : (backTo pos (starEach [] X.env)).any (·.1) = false := by rfl) :
    SE X W (.Call (.Attribute (.Subscript (.Name x p) (.Constant (.int (c : Int)) j p2) p3) "pop" apos) [.Constant (.int 0) j2 p4] [] pos) (mKidPop i c) := by
  refine ⟨PE.imp (pe_bm F.plainAttrs_list F.slot_list_pop F.type_list_pop mt_popAt (pe_ix ix_seq (pe_var hN hv hd hcd) pe_int fun _ _ => rfl) (pa_cons pe_int pa_nil nb) hbase hfew hline nb hplain) fun σ H Q h => ?_, Len.kidPop⟩
  obtain ⟨e, L, hl, g, h⟩ := h
  obtain ⟨o, ho, h⟩ := Post.slot h
  obtain ⟨v, hv⟩ := slot_val ho hl g
  cases hk0 : o.kidPop c with
  | none => rw [hk0] at h; exact h.elim
  | some zz =>
      rw [hk0] at h
      obtain ⟨d, o'⟩ := zz
      obtain ⟨os, y, r, rfl, hk, rfl, rfl⟩ := kidPop_some hk0
      obtain ⟨q, vs, rfl, hn, hq, el, g1⟩ := (g.take ho hv).openL
      obtain ⟨w, hw⟩ := its_get el hk
      have hc := (List.getElem?_eq_some_iff.mp hw).1
      obtain ⟨C, g2, put⟩ := g1.itsOut hk hw
      obtain ⟨t, ys, rfl, hn2, ht, el2, g3⟩ := g2.openL
      match ys, el2, g3, ht, hn2 with
      | z :: ys, el2, g3, ht, hn2 =>
        have nqt : q ≠ t := fun z => g3.ne2 z.symm
        refine ⟨.ref q, hv, .inl ⟨q, vs, (c : Int), .ref t, rfl, rfl, .inl (.inl hq), atI_of (ixN_nat hc) hw, ?_⟩⟩
        refine ⟨.inl ⟨rfl, _, .inl (.inl ht)⟩, ?_⟩
        refine ⟨t, z :: ys, 0, 0, z, rfl, rfl, ht, by decide, by decide, by simp [seqIndex?], rfl, ?_⟩
        have g4 : G X.K [t, q] H ((some y, some z) :: (its r ys ++ (C ++ ((e.set i none).zip σ ++ L)))) := g3
        have g5 : G X.K [t, q] H (its r ys ++ (C ++ ((e.set i none).zip σ ++ ((some (.sh y.er), some z) :: L)))) := by
          refine g4.er.perm ?_
          refine List.perm_middle.symm.trans (List.Perm.append_left _ ?_)
          refine List.perm_middle.symm.trans (List.Perm.append_left _ ?_)
          exact List.perm_middle.symm
        have hl2 : ys.length ≤ sizeLine := by simp at hn2; omega
        have g6 := (g5.write (x := .lst ys)).closeL (by simpa using el2) hl2 upd_same
        have g7 := put g6
        rw [set_id hw] at g7
        have g8 := g7.closeL (by rw [List.length_set]; exact el) hn (by rw [upd_ne nqt]; exact hq)
        have g9 := G.put' ho hv g8
        exact h z _ (g9.perm List.perm_middle)
end
end Ow

set_option Elab.async false
set_option linter.all false
set_option maxRecDepth 100000
set_option maxHeartbeats 1000000
/-! OwE: enumerate over a list or a tuple, from any begin. -/
namespace OwE
open PySem PySem.Spec PyProof.Rows L2
open PySem.Sem (wp)
/-- the inner iterator tells x and then stands at S -/
def Tells (P : Program) (w : World) (s : Shared) (iv : Addr) (S : Heap → Prop) (x : Value) : Prop :=
  ∀ (A : Around) (E : Value → Shared → Prop) (Q : Value → Shared → Prop), (∀ k, S k → Heap.SameBut iv s.heap k → Q x { s with heap := k }) → wpAny (model P w) A (Builtin.SmallTypes.nextOf (.ref iv)) Q E s
/-- it is at its end -/
def Ended (P : Program) (w : World) (s : Shared) (iv : Addr) : Prop :=
  ∀ (A : Around) (E : Value → Shared → Prop) (Q : Value → Shared → Prop), A.handled = none → (∀ k x, Heap.ExtBut iv s.heap k → (∃ o, k.get? x = some o ∧ o.cls = .type "StopIteration") → E (.ref x) { s with heap := k }) → wpAny (model P w) A (Builtin.SmallTypes.nextOf (.ref iv)) Q E s
def Firm (iv : Addr) (S : Heap → Prop) : Prop := ∀ k k', S k → (∀ o, k.get? iv = some o → k'.get? iv = some o) → S k'
section
variable {P : Program} {w : World} {A : Around} {E : Value → Shared → Prop} {s : Shared} {en iv : Addr} {c : Int} {x old : Value} {S : Heap → Prop}
theorem next_body {Q : Value → Shared → Prop} (he : IsEnum s.heap en iv c old) (hne : en ≠ iv) (hN : Tells P w s iv S x) (hS : Firm iv S)
    (hQ : ∀ k, IsEnumOut k en iv (c + 1) x s.heap.objs.size → S k → k.get? s.heap.objs.size = some { cls := .type "tuple", data := .seq #[.int c s.toks, x] } → k.objs.size = s.heap.objs.size + 1 →
      (∀ b o, b ≠ en → b ≠ iv → s.heap.get? b = some o → k.get? b = some o) → Q (.ref s.heap.objs.size) { s with heap := k, toks := s.toks + 1 }) :
    wpAny (model P w) A (Builtin.«enumerate.__next__» ⟨[.ref en], []⟩) (fun fin s' => ∃ v, fin = .done (.ret v) ∧ Q v s') E s := by
  obtain ⟨h0, gs, dr, t, os⟩ := s
  show wpAny _ _ (field (.ref en) 2 >>= _) _ _ _
  refine wpAny_bind (wpAny_field he rfl (x := .ref iv) rfl (?_))
  refine wpAny_bind (hN _ _ _ fun k1 S1 sb1 => ?_)
  have sb1 : Heap.SameBut iv h0 k1 := sb1
  have e1 : IsEnum k1 en iv c old := (sb1.2 en hne).trans he
  show wpAny _ _ (field (.ref en) 3 >>= _) _ _ ⟨k1, gs, dr, t, os⟩
  refine wpAny_bind (wpAny_field e1 rfl (x := rawInt c) rfl (?_))
  show wpAny _ _ (field (.ref en) 4 >>= _) _ _ ⟨k1, gs, dr, t, os⟩
  refine wpAny_bind (wpAny_field e1 rfl (x := .none) rfl (?_))
  show wpAny _ _ (mkInt c >>= _) _ _ ⟨k1, gs, dr, t, os⟩
  refine wpAny_bind (wpAny_mkInt (?_))
  show wpAny _ _ (setField (.ref en) 3 (rawInt (c + 1)) >>= _) _ _ ⟨k1, gs, dr, t + 1, os⟩
  refine wpAny_bind (wpAny_setField_rec e1 (by simp) fun k2 e2 sb2 => ?_)
  have sb2 : Heap.SameBut en k1 k2 := sb2
  have e2 : IsEnum k2 en iv (c + 1) old := e2
  show wpAny _ _ (setField (.ref en) 4 .none >>= _) _ _ ⟨k2, gs, dr, t + 1, os⟩
  refine wpAny_bind (wpAny_setField_rec e2 (by simp) fun k3 e3 sb3 => ?_)
  have sb3 : Heap.SameBut en k2 k3 := sb3
  have e3 : IsEnum k3 en iv (c + 1) old := e3
  show wpAny _ _ (newTuple [.int c t, x] >>= _) _ _ ⟨k3, gs, dr, t + 1, os⟩
  refine wpAny_bind (wpAny_newTuple (?_))
  have e4 : IsEnum (k3.push { cls := .type "tuple", data := .seq #[.int c t, x] }) en iv (c + 1) old := Heap.get?_push_of_some _ e3
  generalize hk4 : k3.push { cls := .type "tuple", data := .seq #[.int c t, x] } = k4 at e4
  have z3 : k3.objs.size = h0.objs.size := by rw [sb3.1, sb2.1, sb1.1]
  have lt : en < h0.objs.size := Heap.lt_size he
  have t4 : k4.get? h0.objs.size = some { cls := .type "tuple", data := .seq #[.int c t, x] } := by
    rw [← hk4, ← z3]
    exact Heap.get?_push_size _ rfl
  have z4 : k4.objs.size = h0.objs.size + 1 := by rw [← hk4, Heap.size_push, z3]
  have old4 : ∀ b o, b ≠ en → b ≠ iv → h0.get? b = some o → k4.get? b = some o := fun b o n1 n2 q => by
    rw [← hk4]
    exact Heap.get?_push_of_some _ (sb3.extBut b o n1 (sb2.extBut b o n1 (sb1.extBut b o n2 q)))
  have S4 : S k4 := hS k1 k4 S1 fun o q => by
    rw [← hk4]
    exact Heap.get?_push_of_some _ (sb3.extBut iv o (Ne.symm hne) (sb2.extBut iv o (Ne.symm hne) q))
  show wpAny _ _ (Builtin.SmallTypes.ownedTupleIsFree (.ref en) >>= _) _ _ ⟨k4, gs, dr, t + 1, os⟩
  rw [z3]
  refine wpAny_bind (?_)
  unfold Builtin.SmallTypes.ownedTupleIsFree
  refine wpAny_bind (wpAny_field e4 rfl (x := .none) rfl (wpAny_pure (?_)))
  simp only [if_true]
  refine wpAny_bind (wpAny_rule (?_))
  refine wpAny_bind (wpAny_field e4 rfl (x := old) rfl (?_))
  refine wpAny_bind (wpAny_setField_rec e4 (by simp) fun k5 e5 sb5 => ?_)
  have sb5 : Heap.SameBut en k4 k5 := sb5
  have e5 : IsEnum k5 en iv (c + 1) x := e5
  show wpAny _ _ (Builtin.SmallTypes.ownedTupleHandOut (.ref en) (.ref h0.objs.size) >>= _) _ _ ⟨k5, gs, dr, t + 1, os⟩
  refine wpAny_bind (?_)
  unfold Builtin.SmallTypes.ownedTupleHandOut
  refine wpAny_bind (wpAny_setField_rec e5 (by simp) fun k6 e6 sb6 => ?_)
  have sb6 : Heap.SameBut en k5 k6 := sb6
  have e6 : IsEnumOut k6 en iv (c + 1) x h0.objs.size := e6
  refine wpAny_setField_rec e6 (by simp) fun k7 e7 sb7 => ?_
  have sb7 : Heap.SameBut en k6 k7 := sb7
  have e7 : IsEnumOut k7 en iv (c + 1) x h0.objs.size := e7
  refine wpAny_bind (wpAny_letGo (wpAny_pure ⟨_, rfl, hQ k7 e7 (?_) (?_) (?_) (?_)⟩))
  · exact hS k4 k7 S4 fun o q => sb7.extBut iv o (Ne.symm hne) (sb6.extBut iv o (Ne.symm hne) (sb5.extBut iv o (Ne.symm hne) q))
  · exact sb7.extBut _ _ (Nat.ne_of_gt lt) (sb6.extBut _ _ (Nat.ne_of_gt lt) (sb5.extBut _ _ (Nat.ne_of_gt lt) t4))
  · rw [sb7.1, sb6.1, sb5.1, z4]
  · exact fun b o n1 n2 q => sb7.extBut b o n1 (sb6.extBut b o n1 (sb5.extBut b o n1 (old4 b o n1 n2 q)))
theorem pyNext_item {Q : Option Value → Shared → Prop} (he : IsEnum s.heap en iv c old) (hne : en ≠ iv) (hN : Tells P w s iv S x) (hS : Firm iv S)
    (hQ : ∀ k, IsEnumOut k en iv (c + 1) x s.heap.objs.size → S k → k.get? s.heap.objs.size = some { cls := .type "tuple", data := .seq #[.int c s.toks, x] } → k.objs.size = s.heap.objs.size + 1 →
      (∀ b o, b ≠ en → b ≠ iv → s.heap.get? b = some o → k.get? b = some o) → Q (some (.ref s.heap.objs.size)) { s with heap := k, toks := s.toks + 1 }) : wpAny (model P w) A (pyNext (.ref en)) Q E s := by
  have T : s.TypeIs (.ref en) "enumerate" := ⟨_, he, rfl⟩
  unfold pyNext
  exact wpAny_bind (wpAny_attempt (wpAny_callSpecial?_slot (name := Str.ofString "__next__") T F.slot_enumerate_next (wpAny_call_entry F.slot_enumerate_next T F.entry_enumerate_next
    (next_body he hne hN hS fun k a1 a2 a3 a4 a5 => wpAny_pure (hQ k a1 a2 a3 a4 a5)) (F.args_enumerate_next_1 _))))
theorem pyNext_end {Q : Option Value → Shared → Prop} (hh : A.handled = none) (he : IsEnum s.heap en iv c old) (hN : Ended P w s iv) (hQ : ∀ k, Heap.ExtBut iv s.heap k → Q none { s with heap := k }) : wpAny (model P w) A (pyNext (.ref en)) Q E s := by
  have T : s.TypeIs (.ref en) "enumerate" := ⟨_, he, rfl⟩
  unfold pyNext
  refine wpAny_bind (wpAny_attempt (wpAny_callSpecial?_slot (name := Str.ofString "__next__") T F.slot_enumerate_next (wpAny_call_entry F.slot_enumerate_next T F.entry_enumerate_next (?_) (F.args_enumerate_next_1 _))))
  show wpAny _ _ (field (.ref en) 2 >>= _) _ _ _
  refine wpAny_bind (wpAny_field he rfl (x := .ref iv) rfl (?_))
  refine wpAny_bind (hN _ _ _ hh fun k z hk ⟨o, ho, hc⟩ => ?_)
  refine wpAny_bind (wpAny_isInstance (T := "StopIteration") (b := true) ⟨o, ho, hc⟩ isSubtype_stop (?_))
  exact wpAny_pure (hQ _ hk)
end
/-! ### as an iterator of the layer -/
/-- what the inner iterator walks: a row that stands while it does; St i: it stands at i -/
structure Row (K : PySem.W.Frag) (iv : Addr) where
  at_ : List V → Hp → Prop
  St : Nat → Heap → Prop
  inj : ∀ {X : Cx} {pins : List (Addr × Obj)} {σ : L2.St} {H : Hp} {s : Shared}, X.K = K → Inv X pins σ H s → ∀ xs ys, at_ xs H → at_ ys H → xs = ys
  firm : ∀ i, Firm iv (St i)
  obj : ∀ i h, St i h → ∃ o, h.get? iv = some o ∧ ∀ v, o.data ≠ .cell v
  tell : ∀ {X : Cx} {pins : List (Addr × Obj)} {σ : L2.St} {H : Hp} {s : Shared}, X.K = K → Inv X pins σ H s → ∀ (i : Nat) (xs : List V) (x : V), at_ xs H → xs[i]? = some x → St i s.heap → ∃ u, RelV x u ∧ Tells X.prog X.w s iv (St (i + 1)) u
  stop : ∀ {X : Cx} {pins : List (Addr × Obj)} {σ : L2.St} {H : Hp} {s : Shared}, X.K = K → Inv X pins σ H s → ∀ (i : Nat) (xs : List V), at_ xs H → xs.length ≤ i → St i s.heap → Ended X.prog X.w s iv
def It1 (at_ : List V → Hp → Prop) (c : Int) : It :=
  ⟨fun i H => ∃ (xs : List V) (x : V), at_ xs H ∧ xs[i]? = some x, fun i H v H' => ∃ T x, v = .ref T ∧ H T = none ∧ H' = upd H T (.tup [.int (c + (i : Nat)), x]) ∧ ∀ xs, at_ xs H → xs[i]? = some x, fun i H => ∃ xs : List V, at_ xs H ∧ xs.length ≤ i⟩

theorem turn_en {P : Program} {w : World} {K : PySem.W.Frag} {elts : List Expr} {kk : Nat} {tpos : Pos} {en iv : Addr} (R : Row K iv) (c : Int) :
    Turn P w K (.Tuple elts kk tpos) (It1 R.at_ c) [en, iv] en (fun i h => (∃ old, IsEnum h en iv (c + (i : Nat)) old) ∧ R.St i h ∧ en ≠ iv) where
  mem := by simp
  obj := fun i h st b hb => by
    obtain ⟨⟨old, he⟩, hs, _⟩ := st
    rcases (show b = en ∨ b = iv by simpa using hb) with z | z
    · rw [z]; exact ⟨_, he, fun v q => nomatch q⟩
    · rw [z]; exact R.obj i h hs
  keep := fun i h h' st k => ⟨let ⟨old, he⟩ := st.1; ⟨old, k en (by simp) _ he⟩, R.firm i h h' st.2.1 fun o q => k iv (by simp) o q, st.2.2⟩
  item := by
    intro X hP hw hK hc i pins s σ H E I hf st hg
    subst hP hw
    obtain ⟨⟨old, he⟩, hs, hne⟩ := st
    obtain ⟨xs, x, hq, hx⟩ := hg
    obtain ⟨u, ru, hN⟩ := R.tell hK I i xs x hq hx hs
    have l1 : en < s.heap.objs.size := Heap.lt_size he
    have l2 : iv < s.heap.objs.size := by obtain ⟨o, q, _⟩ := R.obj i _ hs; exact Heap.lt_size q
    refine pyNext_item he hne hN (R.firm _) fun k ho hS hT hz hk => ?_
    refine ⟨_, rfl, wpAny_letOwnedTupleGo_enum (s := { s with heap := k, toks := s.toks + 1 }) ho fun k2 he' sb => ?_⟩
    have hT2 : k2.get? s.heap.objs.size = some { cls := .type "tuple", data := .seq #[.int (c + (i : Nat)) s.toks, u] } := (sb.2 _ (Nat.ne_of_gt l1)).trans hT
    have made : ObjOk X.prog X.w (upd H s.heap.objs.size (.tup [.int (c + (i : Nat)), x])) k2 s.heap.objs.size (.tup [.int (c + (i : Nat)), x]) :=
      ⟨by show 2 ≤ sizeLine; decide, [.int (c + (i : Nat)) s.toks, u], .cons ⟨_, rfl⟩ (.cons ru .nil), ⟨_, hT2, rfl, _, rfl⟩⟩
    have J : Inv X pins σ (upd H s.heap.objs.size (.tup [.int (c + (i : Nat)), x])) { s with heap := k2, toks := s.toks + 1 } :=
      I.turnedNew (ch := [en, iv]) (fun b ob hb q => (sb.2 b (fun z => hb (by simp [z]))).trans (hk b ob (fun z => hb (by simp [z])) (fun z => hb (by simp [z])) q)) hf (Nat.le_refl _) made
    refine ⟨.ref s.heap.objs.size, _, J, rfl, ⟨_, x, rfl, I.hok.fresh (Nat.le_refl _), rfl, fun ys hy => by rw [R.inj hK I ys xs hy hq]; exact hx⟩, ⟨⟨u, ?_⟩, R.firm _ _ _ hS fun o q => (sb.2 iv (Ne.symm hne)).trans q, hne⟩, fun b hb => ?_⟩
    · have e1 : c + ((i + 1 : Nat) : Int) = c + (i : Nat) + 1 := by omega
      rw [e1]; exact he'
    · have lb : b < s.heap.objs.size := by
        rcases (show b = en ∨ b = iv by simpa using hb) with z | z
        · rw [z]; exact l1
        · rw [z]; exact l2
      rw [upd_ne (Nat.ne_of_lt lb)]
      exact (hf b hb).1
  done := by
    intro X hP hw hK hc i pins s σ H E I hf st hg
    subst hP hw
    obtain ⟨⟨old, he⟩, hs, hne⟩ := st
    obtain ⟨xs, hq, hx⟩ := hg
    obtain ⟨f0, f1, f2, f3, f4, f5⟩ := hf iv (by simp)
    exact pyNext_end (I.ok.hd hc) he (R.stop hK I i xs hq hx hs) fun k eb => ⟨rfl, I.turned (t' := s.toks) (fun b o hb q => eb b o hb q) f0 f1 f3 f4 f5⟩
  self := fun A i s Q E st h => let ⟨⟨_, he⟩, _⟩ := st; wpAny_pyIter_enum he h
def rowL (K : PySem.W.Frag) (iv a : Addr) : Row K iv where
  at_ := fun xs H => SqL K H a xs
  St := fun i h => h.IsListIter iv a i
  inj := fun hK I xs ys h1 h2 => by subst hK; exact I.list_inj h1 h2
  firm := fun i k k' h f => h.at f
  obj := fun i h ⟨o, ho, _, hd⟩ => ⟨o, ho, fun v q => by rw [hd] at q; cases q⟩
  tell := fun hK I i xs x hq hx hs => by
    subst hK
    obtain ⟨its, rv, p, hz⟩ := I.list hq
    obtain ⟨u, hu, ru⟩ := rv.get hx
    exact ⟨u, ru, fun A E Q h => wpAny_nextOf_list_item hs p.isList (x := u) (by simpa using hu) h⟩
  stop := fun hK I i xs hq hx hs => by
    subst hK
    obtain ⟨its, rv, p, hz⟩ := I.list hq
    have := rv.length
    exact fun A E Q hh h => wpAny_nextOf_list_end hh hs p.isList (by simp; omega) h
def rowT (K : PySem.W.Frag) (iv a : Addr) : Row K iv where
  at_ := fun xs H => SqT K H a xs
  St := fun i h => h.IsTupleIter iv a i
  inj := fun hK I xs ys h1 h2 => by subst hK; exact I.tuple_inj h1 h2
  firm := fun i k k' h f => h.at f
  obj := fun i h ⟨o, ho, _, hd⟩ => ⟨o, ho, fun v q => by rw [hd] at q; cases q⟩
  tell := fun hK I i xs x hq hx hs => by
    subst hK
    obtain ⟨its, rv, p, _⟩ := I.tuple hq
    obtain ⟨u, hu, ru⟩ := rv.get hx
    exact ⟨u, ru, fun A E Q h => RZ.nextOf_tuple_item hs p (x := u) (by simpa using hu) h⟩
  stop := fun hK I i xs hq hx hs => by
    subst hK
    obtain ⟨its, rv, p, _⟩ := I.tuple hq
    have := rv.length
    exact fun A E Q hh h => RZ.nextOf_tuple_end hh hs p (by simp; omega) h
/-! ### the call -/
theorem tc2 (a b : Value) : checkTypeCall "enumerate" ⟨[a, b], []⟩ = pure () := by kernel_rfl
theorem nc2 (a b : Value) : checkBuiltinCall "enumerate.__new__" ⟨[.type "enumerate", a, b], []⟩ = pure () := by kernel_rfl
abbrev enH (h : Heap) (cls : String) (l : Addr) (k : Int) : Heap := (h.push { cls := .type cls, data := .fields #[.ref l, .int 0 0] }).push { cls := .type "enumerate", data := .fields #[.none, .bool false, .ref h.objs.size, rawInt k, .none, .none] }
theorem meets_T1 (l : Addr) (items : Array Value) :
    Meets (Builtin.«enumerate.__new__» ⟨[.type "enumerate", .ref l], []⟩) (fun _ R s => s.heap.IsTuple l items ∧ R (.ok (.ret (.ref (s.heap.push { cls := .type "tuple_iterator", data := .fields #[.ref l, .int 0 0] }).objs.size))) { s with heap := enH s.heap "tuple_iterator" l 0 }) :=
  .of_wp fun prog w A R s h => by
    obtain ⟨hp, g, d, tk, os⟩ := s
    obtain ⟨hl, h⟩ := h
    have hsub := sub_enumerate
    have hL : Heap.IsTuple (Shared.heap ⟨hp, g, d, tk, os⟩) l items := hl
    wp_walk using wpAny_pyIter_tuple hL
    refine wpAny_stack_any fun st => wpAny_pure (?_)
    split
    · rename_i c _ _ _ _ _
      cases (c == Value.type "enumerate") <;> (wp_walk using wpAny_pyIter_tuple hL; exact ⟨_, rfl, h⟩)
    · wp_walk using wpAny_pyIter_tuple hL
      exact ⟨_, rfl, h⟩
theorem meets_T2 (l : Addr) (items : Array Value) (k : Int) (t : Tok) (hk : Builtin.SmallTypes.fitsIndex k = true) :
    Meets (Builtin.«enumerate.__new__» ⟨[.type "enumerate", .ref l, .int k t], []⟩) (fun _ R s => s.heap.IsTuple l items ∧ R (.ok (.ret (.ref (s.heap.push { cls := .type "tuple_iterator", data := .fields #[.ref l, .int 0 0] }).objs.size))) { s with heap := enH s.heap "tuple_iterator" l k }) :=
  .of_wp fun prog w A R s h => by
    obtain ⟨hp, g, d, tk, os⟩ := s
    obtain ⟨hl, h⟩ := h
    have hsub := sub_enumerate
    have hL : Heap.IsTuple (Shared.heap ⟨hp, g, d, tk, os⟩) l items := hl
    wp_walk using wpAny_pyIter_tuple hL
    refine wpAny_stack_any fun st => wpAny_pure (?_)
    split
    · rename_i c _ _ _ _ _
      cases (c == Value.type "enumerate") <;> (wp_walk using wpAny_pyIter_tuple hL; exact ⟨_, rfl, h⟩)
    · wp_walk using wpAny_pyIter_tuple hL
      exact ⟨_, rfl, h⟩
theorem meets_L2 (l : Addr) (items : Array Value) (k : Int) (t : Tok) (hk : Builtin.SmallTypes.fitsIndex k = true) :
    Meets (Builtin.«enumerate.__new__» ⟨[.type "enumerate", .ref l, .int k t], []⟩) (fun _ R s => s.heap.IsList l items ∧ R (.ok (.ret (.ref (s.heap.push { cls := .type "list_iterator", data := .fields #[.ref l, .int 0 0] }).objs.size))) { s with heap := enH s.heap "list_iterator" l k }) :=
  .of_wp fun prog w A R s h => by
    obtain ⟨hp, g, d, tk, os⟩ := s
    obtain ⟨hl, h⟩ := h
    have hsub := sub_enumerate
    have hL : Heap.IsList (Shared.heap ⟨hp, g, d, tk, os⟩) l items := hl
    wp_walk using wpAny_pyIter_list hL
    refine wpAny_stack_any fun st => wpAny_pure (?_)
    split
    · rename_i c _ _ _ _ _
      cases (c == Value.type "enumerate") <;> (wp_walk using wpAny_pyIter_list hL; exact ⟨_, rfl, h⟩)
    · wp_walk using wpAny_pyIter_list hL
      exact ⟨_, rfl, h⟩
theorem meets_L1 (l : Addr) (items : Array Value) :
    Meets (Builtin.«enumerate.__new__» ⟨[.type "enumerate", .ref l], []⟩) (fun _ R s => s.heap.IsList l items ∧ R (.ok (.ret (.ref (s.heap.push { cls := .type "list_iterator", data := .fields #[.ref l, .int 0 0] }).objs.size))) { s with heap := enH s.heap "list_iterator" l 0 }) :=
  .of_wp fun prog w A R s h => by
    obtain ⟨hp, g, d, tk, os⟩ := s
    obtain ⟨hl, h⟩ := h
    have hsub := sub_enumerate
    have hL : Heap.IsList (Shared.heap ⟨hp, g, d, tk, os⟩) l items := hl
    wp_walk using wpAny_pyIter_list hL
    refine wpAny_stack_any fun st => wpAny_pure (?_)
    split
    · rename_i c _ _ _ _ _
      cases (c == Value.type "enumerate") <;> (wp_walk using wpAny_pyIter_list hL; exact ⟨_, rfl, h⟩)
    · wp_walk using wpAny_pyIter_list hL
      exact ⟨_, rfl, h⟩
section
variable {P : Program} {w : World} {A : Around} {E : Value → Shared → Prop} {s : Shared}
/-- what the heap is behind the making -/
theorem enH_facts {h : Heap} {cls : String} {l : Addr} {k : Int} : IsEnum (enH h cls l k) (h.objs.size + 1) h.objs.size k .none ∧ (enH h cls l k).get? h.objs.size = some { cls := .type cls, data := .fields #[.ref l, .int 0 0] } ∧ ∀ b o, h.get? b = some o → (enH h cls l k).get? b = some o := by
  have hz : (h.push { cls := .type cls, data := .fields #[.ref l, .int 0 0] }).objs.size = h.objs.size + 1 := Heap.size_push ..
  refine ⟨?_, Heap.get?_push_of_some _ (Heap.get?_push_size _ rfl), fun b o x => Heap.get?_push_of_some _ (Heap.get?_push_of_some _ x)⟩
  have := Heap.get?_push_size (h.push { cls := .type cls, data := .fields #[.ref l, .int 0 0] }) (o := { cls := .type "enumerate", data := .fields #[.none, .bool false, .ref h.objs.size, rawInt k, .none, .none] }) rfl
  rw [hz] at this
  exact this
/-- the two ways of calling it -/
inductive Way : List Value → Addr → Int → Prop
  | one {l : Addr} : Way [.ref l] l 0
  | two {l : Addr} {k : Int} {t : Tok} : Builtin.SmallTypes.fitsIndex k = true → Way [.ref l, .int k t] l k
theorem call_L {us : List Value} {l : Addr} {k : Int} (W : Way us l k) {items : Array Value} {Q : Value → Shared → Prop} (hl : s.heap.IsList l items)
    (h : ∀ h', IsEnum h' (s.heap.objs.size + 1) s.heap.objs.size k .none → h'.IsListIter s.heap.objs.size l 0 → (∀ b o, s.heap.get? b = some o → h'.get? b = some o) → Q (.ref (s.heap.objs.size + 1)) { s with heap := h' }) :
    wpAny (model P w) A (call (.type "enumerate") us) Q E s := by
  obtain ⟨f1, f2, f3⟩ := enH_facts (h := s.heap) (cls := "list_iterator") (l := l) (k := k)
  have hz : (s.heap.push { cls := .type "list_iterator", data := .fields #[.ref l, .int 0 0] }).objs.size = s.heap.objs.size + 1 := Heap.size_push ..
  have fin := h _ f1 ⟨_, f2, rfl, rfl⟩ f3
  cases W with
  | one =>
    refine callType_new F.called_enumerate (by decide) (F.typeCall_enumerate_1 _) (F.newCall_enumerate_1 _) (fun obj => F.args_object_init_2 obj _) F.entry_enumerate_new (meets_L1 l items) ⟨hl, ?_⟩
    show _ ∧ _
    rw [hz]
    exact ⟨⟨_, f1, rfl⟩, fin⟩
  | two hk =>
    refine callType_new F.called_enumerate (by decide) (tc2 _ _) (nc2 _ _) (fun obj => F.args_object_init_3 obj _ _) F.entry_enumerate_new (meets_L2 l items k _ hk) ⟨hl, ?_⟩
    show _ ∧ _
    rw [hz]
    exact ⟨⟨_, f1, rfl⟩, fin⟩
theorem call_T {us : List Value} {l : Addr} {k : Int} (W : Way us l k) {items : Array Value} {Q : Value → Shared → Prop} (hl : s.heap.IsTuple l items)
    (h : ∀ h', IsEnum h' (s.heap.objs.size + 1) s.heap.objs.size k .none → h'.IsTupleIter s.heap.objs.size l 0 → (∀ b o, s.heap.get? b = some o → h'.get? b = some o) → Q (.ref (s.heap.objs.size + 1)) { s with heap := h' }) :
    wpAny (model P w) A (call (.type "enumerate") us) Q E s := by
  obtain ⟨f1, f2, f3⟩ := enH_facts (h := s.heap) (cls := "tuple_iterator") (l := l) (k := k)
  have hz : (s.heap.push { cls := .type "tuple_iterator", data := .fields #[.ref l, .int 0 0] }).objs.size = s.heap.objs.size + 1 := Heap.size_push ..
  have fin := h _ f1 ⟨_, f2, rfl, rfl⟩ f3
  cases W with
  | one =>
    refine callType_new F.called_enumerate (by decide) (F.typeCall_enumerate_1 _) (F.newCall_enumerate_1 _) (fun obj => F.args_object_init_2 obj _) F.entry_enumerate_new (meets_T1 l items) ⟨hl, ?_⟩
    show _ ∧ _
    rw [hz]
    exact ⟨⟨_, f1, rfl⟩, fin⟩
  | two hk =>
    refine callType_new F.called_enumerate (by decide) (tc2 _ _) (nc2 _ _) (fun obj => F.args_object_init_3 obj _ _) F.entry_enumerate_new (meets_T2 l items k _ hk) ⟨hl, ?_⟩
    show _ ∧ _
    rw [hz]
    exact ⟨⟨_, f1, rfl⟩, fin⟩
end
/-- values of the layer as the arguments -/
inductive WayV : List V → Addr → Int → Prop
  | one {l : Addr} : WayV [.ref l] l 0
  | two {l : Addr} {k : Int} : Builtin.SmallTypes.fitsIndex k = true → WayV [.ref l, .int k] l k
theorem WayV.way {vs : List V} {us : List Value} {l : Addr} {k : Int} (W : WayV vs l k) (r : Vals vs us) : Way us l k := by
  cases W with
  | one =>
    cases r with
    | cons r rr =>
      cases rr
      cases r
      exact .one
  | two hk =>
    cases r with
    | cons r rr =>
      cases rr with
      | cons r2 rr =>
        cases rr
        cases r
        obtain ⟨t, rfl⟩ := r2
        exact .two hk
def iEn (K : PySem.W.Frag) (ta : TA) : TI := fun σ H R => ta σ H fun vs H1 => ∃ a k xs, WayV vs a k ∧ ((SqL K H1 a xs ∧ R (It1 (fun xs H => SqL K H a xs) k) H1) ∨ (SqT K H1 a xs ∧ R (It1 (fun xs H => SqT K H a xs) k) H1))
theorem pi_en {X : Cx} {e : Expr} {es : List Expr} {ta : TA} {p pos tpos : Pos} {elts : List Expr} {kk : Nat} (hg : Gl X "enumerate") (hm : X.mg "enumerate" = none) (ha : PA X (e :: es) ta)
    (hs : starEach (e :: es) X.env = (false, eval e X.env) :: starEach es X.env := by rfl) (hpl : (backTo pos (starEach es X.env)).any (·.1) = false := by rfl) :
    PI X (.Tuple elts kk tpos) (.Call (.Name "enumerate" p) (e :: es) [] pos) (iEn X.K ta) := by
  refine ⟨fun pins s σ H R I h => ?_⟩
  refine Call_ (ld_blt I hg hm boot_enumerate (PyProof.Rows.callWith_type1 (thn (ha.run pos pins s σ H _ I h) fun us s1 ⟨vs, H1, I1, r1, q1⟩ => ?_) hs hpl))
  obtain ⟨a, k, xs, W, q⟩ := q1
  have W' := W.way r1
  have fr : ∀ b, b ∈ [s1.heap.objs.size + 1, s1.heap.objs.size] → FpOk X pins H1 b := fun b hb => by
    have hle : s1.heap.objs.size ≤ b := by
      rcases (show b = s1.heap.objs.size + 1 ∨ b = s1.heap.objs.size by simpa using hb) with z | z
      · rw [z]; exact Nat.le_add_right _ _
      · rw [z]; exact Nat.le_refl _
    exact I1.fpOk hle (I1.hok.fresh hle)
  have ek : k + ((0 : Nat) : Int) = k := by omega
  rcases q with ⟨hq, q⟩ | ⟨hq, q⟩
  · obtain ⟨its, rv, p', hz⟩ := I1.list hq
    refine call_L W' p'.isList fun h' he hit hk => wpAny_pyIter_enum he ?_
    have I2 : Inv X pins σ H1 { s1 with heap := h' } := I1.kept (t' := s1.toks) hk
    exact ⟨_, _, _, _, H1, rfl, I2, turn_en (rowL X.K s1.heap.objs.size a) k, ⟨⟨.none, by rw [ek]; exact he⟩, hit, Nat.succ_ne_self _⟩, fr, q⟩
  · obtain ⟨its, rv, p', hz⟩ := I1.tuple hq
    refine call_T W' (show s1.heap.IsTuple a its.toArray from p') fun h' he hit hk => wpAny_pyIter_enum he ?_
    have I2 : Inv X pins σ H1 { s1 with heap := h' } := I1.kept (t' := s1.toks) hk
    exact ⟨_, _, _, _, H1, rfl, I2, turn_en (rowT X.K s1.heap.objs.size a) k, ⟨⟨.none, by rw [ek]; exact he⟩, hit, Nat.succ_ne_self _⟩, fr, q⟩
end OwE
namespace Ow
open PySem PySem.Spec PyProof.Rows L2 OwE
def enD (c : Int) (xs : List D) : List D := (List.range xs.length).zipWith (fun (i : Nat) d => D.tup [.int (c + i), d]) xs
theorem enD_len (c : Int) (xs : List D) : (enD c xs).length = xs.length := by simp [enD]
theorem enD_get {c : Int} {xs : List D} {i : Nat} {d : D} (h : (enD c xs)[i]? = some d) : ∃ x, xs[i]? = some x ∧ d = .tup [.int (c + i), x] := by
  have hi : i < xs.length := by
    have := (List.getElem?_eq_some_iff.mp h).1
    rwa [enD_len] at this
  refine ⟨xs[i], List.getElem?_eq_getElem hi, ?_⟩
  unfold enD at h
  rw [List.getElem?_zipWith] at h
  simp [hi] at h
  exact h.symm
section
variable {K : PySem.W.Frag}
theorem it_enL {a : Addr} {xs : List D} {c : Int} (hz : xs.length ≤ sizeLine) : ItOk K (It1 (fun xs H => SqL K H a xs) c) (enD c xs) [(some (.sh (.lst xs)), some (.ref a))] := by
  have base := it_list (K := K) (a := a) (xs := xs) hz rfl
  refine ⟨by rw [enD_len]; exact hz, fun H L g => ?_, fun i H L hi g => ?_, fun i H x H' L d hd g y => ?_⟩
  · rw [enD_len]; exact base.stop H L g
  · rw [enD_len] at hi; exact base.go i H L hi g
  · obtain ⟨T, x', rfl, np, rfl, y⟩ := y
    obtain ⟨z, hx, rfl⟩ := enD_get hd
    have g1 := base.yld i H x' H L _ hx g ⟨rfl, y⟩
    have g2 : G K [] H (its ([D.int (c + (i : Nat)), z].map .sh) [.int (c + (i : Nat)), x'] ++ ([(some (.sh (.lst xs)), some (.ref a))] ++ L)) := g1.flat fun Z => rfl
    exact g2.newTs rfl (by show 2 ≤ sizeLine; decide) np
theorem it_enT {a : Addr} {xs : List D} {c : Int} (hz : xs.length ≤ sizeLine) : ItOk K (It1 (fun xs H => SqT K H a xs) c) (enD c xs) [(some (.sh (.tup xs)), some (.ref a))] := by
  have base := it_tup (K := K) (a := a) (xs := xs) hz rfl
  refine ⟨by rw [enD_len]; exact hz, fun H L g => ?_, fun i H L hi g => ?_, fun i H x H' L d hd g y => ?_⟩
  · rw [enD_len]; exact base.stop H L g
  · rw [enD_len] at hi; exact base.go i H L hi g
  · obtain ⟨T, x', rfl, np, rfl, y⟩ := y
    obtain ⟨z, hx, rfl⟩ := enD_get hd
    have g1 := base.yld i H x' H L _ hx g ⟨rfl, y⟩
    have g2 : G K [] H (its ([D.int (c + (i : Nat)), z].map .sh) [.int (c + (i : Nat)), x'] ++ ([(some (.sh (.tup xs)), some (.ref a))] ++ L)) := g1.flat fun Z => rfl
    exact g2.newTs rfl (by show 2 ≤ sizeLine; decide) np
end
end Ow

set_option Elab.async false
set_option linter.all false
set_option maxRecDepth 100000
set_option maxHeartbeats 1000000
/-! Ow12: enumerate and zip as what a for or a comprehension walks; a module's dict with text keys. -/
namespace Ow
open PySem PySem.Spec PyProof.Rows L2 OwE
section
variable {X : Cx} {W : WX} {a b : Expr} {ma mb : M O} {pos p tpos : Pos} {x : Str} {K : PySem.W.Frag} {elts : List Expr} {kk : Nat}
def D.row : D → Option (List D)
  | .lst xs => some xs
  | .tup xs => some xs
  | _ => none
theorem row_some {d : D} {xs : List D} (h : d.row = some xs) : d = .lst xs ∨ d = .tup xs := by
  cases d <;> first | (cases h; exact .inl rfl) | (cases h; exact .inr rfl) | cases h
/-- what enumerate wants of a row: its item in the heap and the turn -/
theorem en_go {H1 : Hp} {e1 : Sl} {σ : L2.St} {L : List Item} {d : D} {v : V} {xs : List D} {c : Int} {R : It → Hp → Prop} {vs : List V} (hr : d.row = some xs) (hw : ∀ l, v = .ref l → WayV vs l c) (g : G K [] H1 ((some (.sh d), some v) :: (e1.zip σ ++ L)))
    (h : ∀ J keep H', ItOk K J (enD c xs) keep → G K [] H' (keep ++ (e1.zip σ ++ L)) → R J H') :
    ∃ a k xs, WayV vs a k ∧ ((SqL K H1 a xs ∧ R (It1 (fun xs H => SqL K H a xs) k) H1) ∨ (SqT K H1 a xs ∧ R (It1 (fun xs H => SqT K H a xs) k) H1)) := by
  rcases row_some hr with rfl | rfl
  · obtain ⟨q, ws, rfl, hH, n, el, _⟩ := g.lst
    exact ⟨q, c, ws, hw _ rfl, .inl ⟨.inl (.inl hH), h _ _ H1 (it_enL (by omega)) g⟩⟩
  · obtain ⟨q, ws, rfl, hH, n, el, _⟩ := g.tupl
    exact ⟨q, c, ws, hw _ rfl, .inr ⟨hH, h _ _ H1 (it_enT (by omega)) g⟩⟩
def mEn1 (ma : M O) : M (List D) := ma.bind fun o => ofG (o.er.row.map (enD 0))
theorem si_en1 (hg : Gl X "enumerate") (hm : X.mg "enumerate" = none) (ha : SE X W a ma) (na : starEach [a] X.env = (false, eval a X.env) :: starEach [] X.env := by rfl) (hpl : (backTo pos (starEach [] X.env)).any (·.1) = false := by rfl) : SI X W (.Tuple elts kk tpos) (.Call (.Name "enumerate" p) [a] [] pos) (mEn1 ma) := by
  refine ⟨PI.imp (pi_en hg hm (sa_cons ha sa_nil na).pa na hpl) fun σ H R h => ?_, ha.len.bind fun _ => Len.ofG⟩
  obtain ⟨e, L, hl, g, h⟩ := h
  refine ⟨e, L, hl, g, ?_⟩
  unfold mEn1 at h
  unfold mCons
  have hb := h.bind
  unfold M.bind
  cases q : ma e with
  | no => rw [q] at hb; exact hb.elim
  | exc c fs e1 => rw [q] at hb; exact hb
  | ok o e1 =>
    rw [q] at hb
    obtain ⟨_, h1⟩ := (show _ ∧ _ from hb)
    refine fun (vs : List V) (H1 : Hp) (el : [o].length = vs.length) g1 => ?_
    match vs, el, g1 with
    | [v], _, g1 =>
      have g2 : G X.K [] H1 ((some o, some v) :: (e1.zip σ ++ L)) := g1
      cases hr : o.er.row with
      | none => rw [hr] at h1; exact h1.elim
      | some xs =>
        rw [hr] at h1
        exact en_go hr (fun l e => by rw [e]; exact .one) g2.er h1
def mEn2 (ma mb : M O) : M (List D) := ma.bind fun o => mb.bind fun u => ofG (u.er.asI.bind fun c => if Builtin.SmallTypes.fitsIndex c then o.er.row.map (enD c) else none)
theorem si_en2 (hg : Gl X "enumerate") (hm : X.mg "enumerate" = none) (ha : SE X W a ma) (hb : SE X W b mb) (na : starEach [a, b] X.env = (false, eval a X.env) :: starEach [b] X.env := by rfl) (nb : starEach [b] X.env = (false, eval b X.env) :: starEach [] X.env := by rfl) (hpl : (backTo pos (starEach [b] X.env)).any (·.1) = false := by rfl) : SI X W (.Tuple elts kk tpos) (.Call (.Name "enumerate" p) [a, b] [] pos) (mEn2 ma mb) := by
  refine ⟨PI.imp (pi_en hg hm (sa_cons ha (sa_cons hb sa_nil nb) na).pa na hpl) fun σ H R h => ?_, ha.len.bind fun _ => hb.len.bind fun _ => Len.ofG⟩
  obtain ⟨e, L, hl, g, h⟩ := h
  refine ⟨e, L, hl, g, ?_⟩
  unfold mEn2 at h
  unfold mCons
  have h1 := h.bind
  unfold M.bind
  cases q : ma e with
  | no => rw [q] at h1; exact h1.elim
  | exc c fs e1 => rw [q] at h1; exact h1
  | ok o e1 =>
    rw [q] at h1
    obtain ⟨_, h1⟩ := (show _ ∧ _ from h1)
    have h2 := h1.bind
    simp only
    cases q2 : mb e1 with
    | no => rw [q2] at h2; exact h2.elim
    | exc c fs e2 => rw [q2] at h2; exact h2
    | ok u e2 =>
      rw [q2] at h2
      obtain ⟨_, h2⟩ := (show _ ∧ _ from h2)
      refine fun (vs : List V) (H1 : Hp) (el : [o, u].length = vs.length) g1 => ?_
      match vs, el, g1 with
      | [v, z], _, g1 =>
        have g2 : G X.K [] H1 ((some o, some v) :: (some u, some z) :: (e2.zip σ ++ L)) := g1
        cases hc : u.er.asI with
        | none => rw [hc] at h2; exact h2.elim
        | some c =>
          rw [hc] at h2
          have ez := g2.tail.er.rep.asI hc
          subst ez
          by_cases hf : Builtin.SmallTypes.fitsIndex c = true
          · simp only [Option.bind_some, if_pos hf] at h2
            cases hr : o.er.row with
            | none => rw [hr] at h2; exact h2.elim
            | some xs =>
              rw [hr] at h2
              exact en_go hr (fun l e => by rw [e]; exact .two hf) (g2.rot.tail).er h2
          · simp only [Option.bind_some, if_neg hf] at h2
            exact h2.elim
/-! ### zip -/
def zipD (xs ys : List D) : List D := xs.zipWith (fun u v => D.tup [u, v]) ys
theorem it_zipL {p q : Addr} {xs ys : List D} (hz : xs.length ≤ sizeLine) (hz2 : ys.length ≤ sizeLine) : ItOk K (Itz K p q) (zipD xs ys) [(some (.sh (.lst xs)), some (.ref p)), (some (.sh (.lst ys)), some (.ref q))] := by
  have b1 := it_list (K := K) (a := p) (xs := xs) hz rfl
  have b2 := it_list (K := K) (a := q) (xs := ys) hz2 rfl
  have ln : (zipD xs ys).length = min xs.length ys.length := by simp [zipD]
  refine ⟨by rw [ln]; omega, fun H L g => ?_, fun i H L hi g => ?_, fun i H x H' L d hd g y => ?_⟩
  · obtain ⟨_, us, e1, h1, n1, l1, _⟩ := G.lst g
    obtain ⟨_, vs, e2, h2, n2, l2, _⟩ := G.lst g.tail
    cases e1; cases e2
    exact ⟨us, vs, .inl (.inl h1), .inl (.inl h2), by rw [ln]; omega⟩
  · obtain ⟨_, us, e1, h1, n1, l1, _⟩ := G.lst g
    obtain ⟨_, vs, e2, h2, n2, l2, _⟩ := G.lst g.tail
    cases e1; cases e2
    rw [ln] at hi
    have i1 : i < us.length := by omega
    have i2 : i < vs.length := by omega
    exact ⟨us, vs, us[i], vs[i], .inl (.inl h1), .inl (.inl h2), List.getElem?_eq_getElem i1, List.getElem?_eq_getElem i2⟩
  · obtain ⟨T, u, v, rfl, np, rfl, y1, y2⟩ := y
    have hi := (List.getElem?_eq_some_iff.mp hd).1
    rw [ln] at hi
    have i1 : i < xs.length := by omega
    have i2 : i < ys.length := by omega
    have ed : d = .tup [xs[i], ys[i]] := by
      unfold zipD at hd
      rw [List.getElem?_zipWith] at hd
      simp [i1, i2] at hd
      exact hd.symm
    subst ed
    have g1 := b2.yld i H v H ((some (.sh (.lst xs)), some (.ref p)) :: L) _ (List.getElem?_eq_getElem i2) (G.rot (L := L) g) ⟨rfl, y2⟩
    have g2 : G K [] H ([(some (.sh (.lst xs)), some (.ref p))] ++ ((some (.sh ys[i]), some v) :: (some (.sh (.lst ys)), some (.ref q)) :: L)) := by
      refine g1.perm ?_
      show ((some (O.sh ys[i]), some v) :: (some (O.sh (.lst ys)), some (V.ref q)) :: (some (O.sh (.lst xs)), some (V.ref p)) :: L).Perm ((some (O.sh (.lst xs)), some (V.ref p)) :: (some (O.sh ys[i]), some v) :: (some (O.sh (.lst ys)), some (V.ref q)) :: L)
      exact (List.Perm.cons _ (List.Perm.swap _ _ _)).trans (List.Perm.swap _ _ _)
    have g3 := b1.yld i H u H _ _ (List.getElem?_eq_getElem i1) g2 ⟨rfl, y1⟩
    have g4 : G K [] H (its ([xs[i], ys[i]].map .sh) [u, v] ++ ((some (.sh (.lst xs)), some (.ref p)) :: (some (.sh (.lst ys)), some (.ref q)) :: L)) := g3.perm (List.Perm.cons _ (List.Perm.swap _ _ _))
    exact g4.newTs rfl (by show 2 ≤ sizeLine; decide) np
theorem it_zipT {p q : Addr} {xs ys : List D} (hz : xs.length ≤ sizeLine) (hz2 : ys.length ≤ sizeLine) : ItOk K (RZ.ItzT K p q) (zipD xs ys) [(some (.sh (.tup xs)), some (.ref p)), (some (.sh (.tup ys)), some (.ref q))] := by
  have b1 := it_tup (K := K) (a := p) (xs := xs) hz rfl
  have b2 := it_tup (K := K) (a := q) (xs := ys) hz2 rfl
  have ln : (zipD xs ys).length = min xs.length ys.length := by simp [zipD]
  refine ⟨by rw [ln]; omega, fun H L g => ?_, fun i H L hi g => ?_, fun i H x H' L d hd g y => ?_⟩
  · obtain ⟨_, us, e1, h1, n1, l1, _⟩ := G.tupl g
    obtain ⟨_, vs, e2, h2, n2, l2, _⟩ := G.tupl g.tail
    cases e1; cases e2
    exact ⟨us, vs, h1, h2, by rw [ln]; omega⟩
  · obtain ⟨_, us, e1, h1, n1, l1, _⟩ := G.tupl g
    obtain ⟨_, vs, e2, h2, n2, l2, _⟩ := G.tupl g.tail
    cases e1; cases e2
    rw [ln] at hi
    have i1 : i < us.length := by omega
    have i2 : i < vs.length := by omega
    exact ⟨us, vs, us[i], vs[i], h1, h2, List.getElem?_eq_getElem i1, List.getElem?_eq_getElem i2⟩
  · obtain ⟨T, u, v, rfl, np, rfl, y1, y2⟩ := y
    have hi := (List.getElem?_eq_some_iff.mp hd).1
    rw [ln] at hi
    have i1 : i < xs.length := by omega
    have i2 : i < ys.length := by omega
    have ed : d = .tup [xs[i], ys[i]] := by
      unfold zipD at hd
      rw [List.getElem?_zipWith] at hd
      simp [i1, i2] at hd
      exact hd.symm
    subst ed
    have g1 := b2.yld i H v H ((some (.sh (.tup xs)), some (.ref p)) :: L) _ (List.getElem?_eq_getElem i2) (G.rot (L := L) g) ⟨rfl, y2⟩
    have g2 : G K [] H ([(some (.sh (.tup xs)), some (.ref p))] ++ ((some (.sh ys[i]), some v) :: (some (.sh (.tup ys)), some (.ref q)) :: L)) := by
      refine g1.perm ?_
      show ((some (O.sh ys[i]), some v) :: (some (O.sh (.tup ys)), some (V.ref q)) :: (some (O.sh (.tup xs)), some (V.ref p)) :: L).Perm ((some (O.sh (.tup xs)), some (V.ref p)) :: (some (O.sh ys[i]), some v) :: (some (O.sh (.tup ys)), some (V.ref q)) :: L)
      exact (List.Perm.cons _ (List.Perm.swap _ _ _)).trans (List.Perm.swap _ _ _)
    have g3 := b1.yld i H u H _ _ (List.getElem?_eq_getElem i1) g2 ⟨rfl, y1⟩
    have g4 : G K [] H (its ([xs[i], ys[i]].map .sh) [u, v] ++ ((some (.sh (.tup xs)), some (.ref p)) :: (some (.sh (.tup ys)), some (.ref q)) :: L)) := g3.perm (List.Perm.cons _ (List.Perm.swap _ _ _))
    exact g4.newTs rfl (by show 2 ≤ sizeLine; decide) np
def zipR : D → D → Option (List D)
  | .lst xs, .lst ys => some (zipD xs ys)
  | .tup xs, .tup ys => some (zipD xs ys)
  | _, _ => none
def mZip (ma mb : M O) : M (List D) := ma.bind fun o => mb.bind fun u => ofG (zipR o.er u.er)
theorem si_zip (hg : Gl X "zip") (hm : X.mg "zip" = none) (ha : SE X W a ma) (hb : SE X W b mb) (na : starEach [a, b] X.env = (false, eval a X.env) :: starEach [b] X.env := by rfl) (nb : starEach [b] X.env = (false, eval b X.env) :: starEach [] X.env := by rfl) (hpl : (backTo pos (starEach [b] X.env)).any (·.1) = false := by rfl) : SI X W (.Tuple elts kk tpos) (.Call (.Name "zip" p) [a, b] [] pos) (mZip ma mb) := by
  refine ⟨PI.imp (RZ.pi_zipA hg hm (sa_cons ha (sa_cons hb sa_nil nb) na).pa na hpl) fun σ H R h => ?_, ha.len.bind fun _ => hb.len.bind fun _ => Len.ofG⟩
  obtain ⟨e, L, hl, g, h⟩ := h
  refine ⟨e, L, hl, g, ?_⟩
  unfold mZip at h
  unfold mCons
  have h1 := h.bind
  unfold M.bind
  cases q : ma e with
  | no => rw [q] at h1; exact h1.elim
  | exc c fs e1 => rw [q] at h1; exact h1
  | ok o e1 =>
    rw [q] at h1
    obtain ⟨_, h1⟩ := (show _ ∧ _ from h1)
    have h2 := h1.bind
    simp only
    cases q2 : mb e1 with
    | no => rw [q2] at h2; exact h2.elim
    | exc c fs e2 => rw [q2] at h2; exact h2
    | ok u e2 =>
      rw [q2] at h2
      obtain ⟨_, h2⟩ := (show _ ∧ _ from h2)
      refine fun (vs : List V) (H1 : Hp) (el : [o, u].length = vs.length) g1 => ?_
      match vs, el, g1 with
      | [v, z], _, g1 =>
        have g2 : G X.K [] H1 ((some (.sh o.er), some v) :: (some (.sh u.er), some z) :: (e2.zip σ ++ L)) := (G.er (show G X.K [] H1 ((some o, some v) :: (some u, some z) :: (e2.zip σ ++ L)) from g1)).rot.er.rot
        cases hc : zipR o.er u.er with
        | none => rw [hc] at h2; exact h2.elim
        | some ds =>
          rw [hc] at h2
          unfold zipR at hc
          split at hc
          · rename_i xs ys ex ey
            cases hc
            rw [ex, ey] at g2
            obtain ⟨p1, us, rfl, k1, n1, l1, _⟩ := g2.lst
            obtain ⟨p2, ws, rfl, k2, n2, l2, _⟩ := g2.tail.lst
            exact ⟨p1, p2, us, ws, rfl, .inl ⟨.inl (.inl k1), .inl (.inl k2), h2 _ _ H1 (it_zipL (by omega) (by omega)) g2⟩⟩
          · rename_i xs ys ex ey
            cases hc
            rw [ex, ey] at g2
            obtain ⟨p1, us, rfl, k1, n1, l1, _⟩ := g2.tupl
            obtain ⟨p2, ws, rfl, k2, n2, l2, _⟩ := g2.tail.tupl
            exact ⟨p1, p2, us, ws, rfl, .inr ⟨k1, k2, h2 _ _ H1 (it_zipT (by omega) (by omega)) g2⟩⟩
          · cases hc
end
end Ow

set_option Elab.async false
set_option linter.all false
set_option maxRecDepth 100000
set_option maxHeartbeats 1000000
/-! Ow13: a module's dict from texts to ints. -/
namespace Ow
open PySem PySem.Spec PyProof.Rows L2
def kvOf (e : DictEntry) : Option (Str × Int) := match e.key, e.val with
  | .str k _, .int v _ => some (k, v)
  | _, _ => none
def kTab (K : PySem.W.Frag) (d : Addr) : Option (List (Str × Int)) := match K.lookup d with
  | some ⟨_, _, .dict es _, _⟩ => es.toList.mapM kvOf
  | _ => none
theorem kvOf_some {e : DictEntry} {p : Str × Int} (h : kvOf e = some p) : ∃ t u, e.key = .str p.1 t ∧ e.val = .int p.2 u := by
  unfold kvOf at h
  split at h
  · rename_i k t v u h1 h2
    cases h
    exact ⟨_, _, h1, h2⟩
  · cases h
theorem find_kv : ∀ {l : List DictEntry} {kvs : List (Str × Int)} {z : Str}, l.mapM kvOf = some kvs →
    (∀ v, kvs.lookup z = some v → ∃ e u, l.find? (·.key.isStr z) = some e ∧ e.val = .int v u) ∧ (kvs.lookup z = none → l.find? (·.key.isStr z) = none ∧ l.any (·.refKey) = false)
  | [], kvs, z, h => by
    simp at h
    subst h
    exact ⟨fun v q => by simp at q, fun _ => ⟨rfl, rfl⟩⟩
  | e :: l, kvs, z, h => by
    rw [List.mapM_cons] at h
    cases h1 : kvOf e with
    | none => rw [h1] at h; cases h
    | some p =>
      cases h2 : l.mapM kvOf with
      | none => rw [h1, h2] at h; cases h
      | some r =>
        rw [h1, h2] at h
        cases h
        obtain ⟨t, u, ek, ev⟩ := kvOf_some h1
        obtain ⟨i1, i2⟩ := find_kv (z := z) h2
        have hs : e.key.isStr z = (p.1 == z) := by rw [ek]; rfl
        obtain ⟨pk, pv⟩ := p
        by_cases hz : z = pk
        · subst hz
          have hs' : e.key.isStr z = true := by rw [hs]; simp
          refine ⟨fun v q => ⟨e, u, ?_, ?_⟩, fun q => ?_⟩
          · exact List.find?_cons_of_pos (p := fun x : DictEntry => x.key.isStr z) hs'
          · simp [List.lookup] at q
            rw [ev, q]
          · simp [List.lookup] at q
        · have hs' : e.key.isStr z = false := by
            rw [hs]
            simpa using fun y => hz y.symm
          have hl : List.lookup z ((pk, pv) :: r) = List.lookup z r := by
            simp [List.lookup, beq_false_of_ne hz]
          rw [hl, List.find?_cons_of_neg (p := fun x : DictEntry => x.key.isStr z) (by rw [hs']; simp)]
          refine ⟨i1, fun q => ⟨(i2 q).1, ?_⟩⟩
          rw [List.any_cons, (i2 q).2, Bool.or_false]
          show DictEntry.refKey e = false
          unfold DictEntry.refKey
          rw [ek]
theorem kTab_in {K : PySem.W.Frag} {d : Addr} {kvs : List (Str × Int)} (h : kTab K d = some kvs) (z : Str) : (∀ v, kvs.lookup z = some v → ∃ u, PySem.W.nsIn K d z = some (some (.int v u))) ∧ (kvs.lookup z = none → PySem.W.nsIn K d z = some none) := by
  unfold kTab at h
  split at h
  · rename_i oc od es n sl q
    obtain ⟨h1, h2⟩ := find_kv (z := z) h
    unfold PySem.W.nsIn
    rw [q]
    refine ⟨fun v e => ?_, fun e => ?_⟩
    · obtain ⟨e', u, f, ev⟩ := h1 v e
      refine ⟨u, ?_⟩
      show (match es.toList.find? (·.key.isStr z) with | some e => some (some e.val) | none => if es.toList.any (·.refKey) then none else some none) = _
      rw [f]
      simp [ev]
    · obtain ⟨f, g⟩ := h2 e
      show (match es.toList.find? (·.key.isStr z) with | some e => some (some e.val) | none => if es.toList.any (·.refKey) then none else some none) = _
      rw [f, g]
      rfl
  · cases h
/-- the module's name x is a dict of these -/
structure Tb (K : PySem.W.Frag) (w : World) (mg : Str → Option Value) (x : Str) (kvs : List (Str × Int)) : Prop where
  ex : ∃ d es n, mg x = some (.ref d) ∧ KDict K w d es n ∧ kTab K d = some kvs
section
variable {X : Cx} {W : WX} {a b : Expr} {ma mb : M O} {pos p : Pos} {x : Str} {kvs : List (Str × Int)}
def inTab (kvs : List (Str × Int)) : D → Option O
  | .str z => some (.sh (.bl (kvs.lookup z).isSome))
  | _ => none
theorem inTab_go {K : PySem.W.Frag} {w : World} {d : Addr} {es : Array DictEntry} {n : Nat} (hd : kTab K d = some kvs) : UOk K (fun x H Q => ∃ (z : Str) (r : Option Value), x = .str z ∧ V.ref d = .ref d ∧ PySem.W.nsIn K d z = some r ∧ Q (.bl r.isSome) H) (inTab kvs) := by
  intro y o u H L Q e g q
  unfold inTab at e
  split at e
  · rename_i z
    cases e
    obtain ⟨h1, h2⟩ := kTab_in hd z
    cases hl : kvs.lookup z with
    | none =>
      refine ⟨z, none, g.rep, rfl, h2 hl, q _ H (g.tail.flat fun Z => ?_)⟩
      rw [hl]; rfl
    | some v =>
      obtain ⟨t, ht⟩ := h1 v hl
      refine ⟨z, _, g.rep, rfl, ht, q _ H (g.tail.flat fun Z => ?_)⟩
      rw [hl]; rfl
  · cases e
theorem se_inTab (T : Tb X.K X.w X.mg x kvs) (hg : Gl X x) (ha : SE X W a ma) (hd : (x == ("__debug__" : Str)) = false := by decide) (hm : behindInMarks .In (.Name x p) = false := by rfl) : SE X W (.Compare a [.In] [.Name x p] pos) (mUn (inTab kvs) ma) := by
  obtain ⟨d, es, n, hx, D, ht⟩ := T.ex
  refine ⟨PE.imp (pe_cmpR (op_in_kd D) ha.pe (pe_glob hg hx (show RelV (.ref d) (.ref d) from rfl) hd) hm) fun σ H Q h => ?_, ha.len.un⟩
  refine tUn_of (r := fun x H Q => ∃ (z : Str) (r : Option Value), x = .str z ∧ V.ref d = .ref d ∧ PySem.W.nsIn X.K d z = some r ∧ Q (.bl r.isSome) H) (inTab_go (w := X.w) (es := es) (n := n) ht) h
def ixTab (kvs : List (Str × Int)) : D → Option O
  | .str z => (kvs.lookup z).map fun v => .sh (.int v)
  | _ => none
theorem se_ixTab (T : Tb X.K X.w X.mg x kvs) (hg : Gl X x) (hb : SE X W b mb) (hd : (x == ("__debug__" : Str)) = false := by decide) (hs : PlainIx b := by exact fun _ _ => rfl) : SE X W (.Subscript (.Name x p) b pos) (mUn (ixTab kvs) mb) := by
  obtain ⟨d, es, n, hx, D, ht⟩ := T.ex
  refine ⟨PE.imp (pe_ix ix_kdict (pe_glob hg hx (show RelV (.ref d) (.ref d) from rfl) hd) hb.pe hs) fun σ H Q h => ?_, hb.len.un⟩
  refine tUn_of (r := fun y H Q => rIxD X.K X.w (.ref d) y H Q) (fun y o u H L Q e g q => ?_) h
  unfold ixTab at e
  split at e
  · rename_i z
    obtain ⟨v, hv, rfl⟩ := Option.map_eq_some_iff.mp e
    obtain ⟨t, hn⟩ := (kTab_in ht z).1 v hv
    exact ⟨d, z, .int v, rfl, g.rep, ⟨es, n, _, D.at_, D.lit, hn, ⟨t, rfl⟩⟩, q _ H (g.tail.flat fun Z => rfl)⟩
  · cases e
end
end Ow

set_option Elab.async false
set_option linter.all false
set_option maxRecDepth 100000
set_option maxHeartbeats 1000000
/-! Ow14: calls that only look: what they get is lent whole, and comes back whole. -/
namespace Ow
open PySem PySem.Spec PyProof.Rows L2
section
variable {K : PySem.W.Frag} {H H' : Hp} {Z : List Addr}
abbrev Pins := List (Addr × HO)
def Holds (B : Pins) (H : Hp) : Prop := ∀ p ∈ B, H p.1 = some p.2
theorem Holds.left {A B : Pins} (h : Holds (A ++ B) H) : Holds A H := fun p hp => h p (List.mem_append_left _ hp)
theorem Holds.right {A B : Pins} (h : Holds (A ++ B) H) : Holds B H := fun p hp => h p (List.mem_append_right _ hp)
theorem Holds.join {A B : Pins} (h : Holds A H) (h' : Holds B H) : Holds (A ++ B) H := fun p hp => (List.mem_append.mp hp).elim (h p) (h' p)
theorem Holds.cons {p : Addr × HO} {B : Pins} (h : H p.1 = some p.2) (h' : Holds B H) : Holds (p :: B) H := fun q hq => (List.mem_cons.mp hq).elim (fun e => by rw [e]; exact h) (h' q)
/-- no table among them -/
def NoT (B : Pins) : Prop := ∀ p ∈ B, ∀ ps, p.2 ≠ .tbl ps
theorem NoT.nil : NoT [] := fun p hp => nomatch hp
theorem NoT.join {A B : Pins} (h : NoT A) (h' : NoT B) : NoT (A ++ B) := fun p hp => (List.mem_append.mp hp).elim (h p) (h' p)
theorem NoT.cons {p : Addr × HO} {B : Pins} (h : ∀ ps, p.2 ≠ .tbl ps) (h' : NoT B) : NoT (p :: B) := fun q hq => (List.mem_cons.mp hq).elim (fun e => by rw [e]; exact h) (h' q)
/-- a table among them is the law's, and owned or none of Z -/
def OkT (K : PySem.W.Frag) (Z F : List Addr) (B : Pins) : Prop := ∀ p ∈ B, ∀ ps, p.2 = .tbl ps → p.1 = tabK K ∧ (p.1 ∈ F ∨ p.1 ∉ Z)
theorem NoT.ok {F : List Addr} {B : Pins} (h : NoT B) : OkT K Z F B := fun p hp ps e => absurd e (h p hp ps)
theorem OkT.join {F1 F2 : List Addr} {A B : Pins} (h : OkT K Z F1 A) (h' : OkT K Z F2 B) : OkT K Z (F1 ++ F2) (A ++ B) := fun p hp ps e => (List.mem_append.mp hp).elim (fun q => ⟨(h p q ps e).1, (h p q ps e).2.imp (List.mem_append_left _) id⟩) fun q => ⟨(h' p q ps e).1, (h' p q ps e).2.imp (List.mem_append_right _) id⟩
theorem OkT.cons {F : List Addr} {p : Addr × HO} {B : Pins} (h : ∀ ps, p.2 = .tbl ps → p.1 = tabK K ∧ (p.1 ∈ F ∨ p.1 ∉ Z)) (h' : OkT K Z F B) : OkT K Z F (p :: B) := fun q hq => (List.mem_cons.mp hq).elim (fun e => by rw [e]; exact h) (h' q)
theorem OkT.wide {F F' : List Addr} {B : Pins} (h : OkT K Z F B) (s : ∀ b ∈ F, b ∈ F') : OkT K Z F' B := fun p hp ps e => ⟨(h p hp ps e).1, (h p hp ps e).2.imp (s _) id⟩
theorem RdT.pins {a : Addr} {vs : List V} (h : RdT K H Z a vs) : ∃ B, Holds B H ∧ NoT B ∧ ∀ H', Holds B H' → RdT K H' Z a vs := by
  rcases h with ⟨n, r⟩ | h
  · exact ⟨[(a, .tup vs)], fun p hp => by rw [List.mem_singleton.mp hp]; exact r, .cons (fun ps z => by cases z) .nil, fun H' b => .inl ⟨n, b _ List.mem_cons_self⟩⟩
  · exact ⟨[], fun p hp => (nomatch hp), .nil, fun H' _ => .inr h⟩
mutual
theorem RepD.pins : ∀ (d : D) (v : V), RepD K H Z d v → ∃ B, Holds B H ∧ NoT B ∧ ∀ H', Holds B H' → RepD K H' Z d v
  | .non, v, h => ⟨[], fun p hp => (nomatch hp), .nil, fun _ _ => h⟩
  | .bl _, v, h => ⟨[], fun p hp => (nomatch hp), .nil, fun _ _ => h⟩
  | .int _, v, h => ⟨[], fun p hp => (nomatch hp), .nil, fun _ _ => h⟩
  | .str _, v, h => ⟨[], fun p hp => (nomatch hp), .nil, fun _ _ => h⟩
  | .gl _, v, h => ⟨[], fun p hp => (nomatch hp), .nil, fun _ _ => h⟩
  | .lst xs, v, h => by
    obtain ⟨a, vs, e, n, r, hs⟩ := h
    obtain ⟨B, b1, b3, b2⟩ := RepDs.pins xs vs hs
    exact ⟨(a, .lst vs) :: B, .cons r.2 b1, .cons (fun ps z => by cases z) b3, fun H' b => ⟨a, vs, e, n, ⟨r.1, b _ List.mem_cons_self⟩, b2 H' fun p hp => b p (List.mem_cons_of_mem _ hp)⟩⟩
  | .tup xs, v, h => by
    obtain ⟨a, vs, e, n, r, hs⟩ := h
    obtain ⟨B, b1, b3, b2⟩ := RepDs.pins xs vs hs
    obtain ⟨C, c1, c3, c2⟩ := r.pins
    exact ⟨C ++ B, c1.join b1, c3.join b3, fun H' b => ⟨a, vs, e, n, c2 H' b.left, b2 H' b.right⟩⟩
  | .dct ks vs, v, h => by
    obtain ⟨a, e, h1, h2, h3, h4⟩ := h
    exact ⟨[(a, .dK [])], fun p hp => by rw [List.mem_singleton.mp hp]; exact h4, .cons (fun ps z => by cases z) .nil, fun H' b => ⟨a, e, h1, h2, h3, b _ List.mem_cons_self⟩⟩
theorem RepDs.pins : ∀ (xs : List D) (vs : List V), RepDs K H Z xs vs → ∃ B, Holds B H ∧ NoT B ∧ ∀ H', Holds B H' → RepDs K H' Z xs vs
  | [], vs, h => ⟨[], fun p hp => (nomatch hp), .nil, fun _ _ => h⟩
  | x :: xs, vs, h => by
    obtain ⟨v, r, e, h1, h2⟩ := h
    obtain ⟨A, a1, a3, a2⟩ := RepD.pins x v h1
    obtain ⟨B, b1, b3, b2⟩ := RepDs.pins xs r h2
    exact ⟨A ++ B, a1.join b1, a3.join b3, fun H' b => ⟨v, r, e, a2 H' b.left, b2 H' b.right⟩⟩
end
theorem among_mem {pos : Pos} {cv : Value} : ∀ {l : List Value}, codeAmong pos l = some cv → cv ∈ l := by
  intro l
  fun_induction codeAmong pos l with
  | case1 a t b u x rest q =>
    intro h
    cases h
    simp
  | case2 a t b u x rest q ih =>
    intro h
    have := ih h
    simp [this]
  | case3 => intro h; cases h
theorem codes_pins (q : Str) : ∀ l : List Value, ∃ B : Pins, Holds B H ∧ NoT B ∧ ∀ c, Value.ref c ∈ l → H c = some (LamX.CodeO c q) → (c, LamX.CodeO c q) ∈ B
  | [] => ⟨[], fun p hp => (nomatch hp), .nil, fun c hc => (nomatch hc)⟩
  | x :: l => by
    obtain ⟨B, b1, b3, b2⟩ := codes_pins q l
    by_cases hx : ∃ c, x = .ref c ∧ H c = some (LamX.CodeO c q)
    · obtain ⟨c, e, hc⟩ := hx
      refine ⟨(c, LamX.CodeO c q) :: B, .cons hc b1, .cons (fun ps => LamX.codeO_ne ps) b3, fun c' h h' => ?_⟩
      rcases List.mem_cons.mp h with z | z
      · rw [e] at z
        cases z
        exact List.mem_cons_self
      · exact List.mem_cons_of_mem _ (b2 c' z h')
    · refine ⟨B, b1, b3, fun c' h h' => ?_⟩
      rcases List.mem_cons.mp h with z | z
      · exact absurd ⟨c', z.symm, h'⟩ hx
      · exact b2 c' z h'
mutual
theorem RepO.pins : ∀ (o : O) (v : V) (F : List Addr), RepO K H Z o v F → ∃ B, Holds B H ∧ OkT K Z F B ∧ ∀ H', Holds B H' → RepO K H' Z o v F
  | .sh d, v, F, h => by
    obtain ⟨e, h⟩ := h
    obtain ⟨B, b1, b3, b2⟩ := RepD.pins d v h
    exact ⟨B, b1, b3.ok, fun H' b => ⟨e, b2 H' b⟩⟩
  | .lst xs, v, F, h => by
    obtain ⟨a, vs, F', e, n, ha, hs, eF⟩ := h
    obtain ⟨B, b1, b3, b2⟩ := RepOs.pins xs vs F' hs
    exact ⟨(a, .lst vs) :: B, .cons ha b1, .cons (fun ps z => by cases z) (b3.wide fun b hb => by rw [eF]; exact List.mem_cons_of_mem _ hb), fun H' b => ⟨a, vs, F', e, n, b _ List.mem_cons_self, b2 H' (fun p hp => b p (List.mem_cons_of_mem _ hp)), eF⟩⟩
  | .tup xs, v, F, h => by
    obtain ⟨a, vs, e, n, r, hs⟩ := h
    obtain ⟨B, b1, b3, b2⟩ := RepOs.pins xs vs F hs
    obtain ⟨C, c1, c3, c2⟩ := r.pins
    exact ⟨C ++ B, c1.join b1, (OkT.join (F1 := []) c3.ok b3).wide fun b hb => by simpa using hb, fun H' b => ⟨a, vs, e, n, c2 H' b.left, b2 H' b.right⟩⟩
  | .tab q, v, F, h => by
    obtain ⟨e, eF, ps, h1, h2, h3⟩ := h
    obtain ⟨B, b1, b3, b2⟩ := codes_pins (H := H) q ps.toList
    refine ⟨(tabK K, .tbl ps) :: B, .cons h1 b1, .cons (fun _ _ => ⟨rfl, .inl (by rw [eF]; exact List.mem_cons_self)⟩) b3.ok, fun H' b => ⟨e, eF, ps, b _ List.mem_cons_self, h2, fun pos cv hc => ?_⟩⟩
    obtain ⟨c, e1, n, e2⟩ := h3 pos cv hc
    subst e1
    exact ⟨c, rfl, n, b _ (List.mem_cons_of_mem _ (b2 c (among_mem hc) e2))⟩
  | .pin A, v, F, h => by
    obtain ⟨e, eF, h1⟩ := h
    exact ⟨A, fun p hp => (h1 p hp).2.1, fun p hp ps e => ⟨(h1 p hp).2.2 ps e, .inr (h1 p hp).1⟩, fun H' b => ⟨e, eF, fun p hp => ⟨(h1 p hp).1, b p hp, (h1 p hp).2.2⟩⟩⟩
theorem RepOs.pins : ∀ (xs : List O) (vs : List V) (F : List Addr), RepOs K H Z xs vs F → ∃ B, Holds B H ∧ OkT K Z F B ∧ ∀ H', Holds B H' → RepOs K H' Z xs vs F
  | [], vs, F, h => ⟨[], fun p hp => (nomatch hp), NoT.nil.ok, fun _ _ => h⟩
  | x :: xs, vs, F, h => by
    obtain ⟨v, r, F1, F2, e, h1, h2, eF⟩ := h
    obtain ⟨A, a1, a3, a2⟩ := RepO.pins x v F1 h1
    obtain ⟨B, b1, b3, b2⟩ := RepOs.pins xs r F2 h2
    exact ⟨A ++ B, a1.join b1, by rw [eF]; exact a3.join b3, fun H' b => ⟨v, r, F1, F2, e, a2 H' b.left, b2 H' b.right, eF⟩⟩
end
theorem RepL.pins : ∀ (L : List Item) (F : List Addr), RepL K H Z L F → ∃ B, Holds B H ∧ OkT K Z F B ∧ ∀ H', Holds B H' → RepL K H' Z L F
  | [], F, h => ⟨[], fun p hp => (nomatch hp), NoT.nil.ok, fun _ _ => h⟩
  | i :: L, F, h => by
    obtain ⟨F1, F2, h1, h2, eF⟩ := h
    obtain ⟨B, b1, b3, b2⟩ := RepL.pins L F2 h2
    have w : OkT K Z F B := b3.wide fun b hb => by rw [eF]; exact List.mem_append_right _ hb
    rcases i with ⟨_ | o, _ | v⟩
    · exact ⟨B, b1, w, fun H' b => ⟨F1, F2, h1, b2 H' b, eF⟩⟩
    · exact ⟨B, b1, w, fun H' b => ⟨F1, F2, h1, b2 H' b, eF⟩⟩
    · exact (show False from h1).elim
    · obtain ⟨A, a1, a3, a2⟩ := RepO.pins o v F1 h1
      exact ⟨A ++ B, a1.join b1, by rw [eF]; exact a3.join b3, fun H' b => ⟨F1, F2, a2 H' b.left, b2 H' b.right, eF⟩⟩
/-- all that is good may be set aside: only pins are left, and it comes back -/
theorem G.aside {L : List Item} (g : G K [] H L) : ∃ B, Holds B H ∧ (∀ p ∈ B, ∀ ps, p.2 = .tbl ps → p.1 = tabK K) ∧ ∀ H', Holds B H' → G K [] H' L := by
  obtain ⟨F, h, n⟩ := g
  obtain ⟨B, b1, b3, b2⟩ := h.pins
  exact ⟨B, b1, fun p hp ps e => (b3 p hp ps e).1, fun H' b => ⟨F, b2 H' b, n⟩⟩
theorem G.pinned {B : Pins} {ds : List D} {vs : List V} (hr : RepDs K H [] ds vs) (b : Holds B H) (b3 : ∀ p ∈ B, ∀ ps, p.2 = .tbl ps → p.1 = tabK K) : G K [] H (its (ds.map .sh) vs ++ [(some (.pin B), some .non)]) := by
  refine G.many (F := []) hr ?_ (by simp)
  exact ⟨[], [], ⟨rfl, rfl, fun p hp => ⟨by simp, b p hp, b3 p hp⟩⟩, rfl, rfl⟩
theorem G.unpin {B : Pins} {L : List Item} (g : G K [] H ((some (.pin B), some .non) :: L)) : Holds B H := by
  obtain ⟨F, ⟨F1, F2, h1, _⟩, _⟩ := g
  exact fun p hp => (h1.2.2 p hp).2.1
theorem flat_rep {Z' : List Addr} {d : D} {v : V} (f : d.flat = true) (h : RepD K H Z d v) : RepD K H' Z' d v := by
  cases d <;> first | exact h | cases f
end
/-- the arguments, looked at -/
def peekA : List A1 → Sl → Option (List D)
  | [], e => some []
  | .v o :: as, e => (peekA as e).map fun r => o.er :: r
  | .w _ :: _, _ => none
  | .l i :: as, e => match e[i]? with
    | some (some o) => (peekA as e).map fun r => o.er :: r
    | _ => none
def mCallPK (g : Fn) (as : List A1) : M O := fun e => match peekA as e with
  | none => .no
  | some ds => match g (ds.map .sh) with
    | .ok (.sh d) _ => if d.flat then .ok (.sh d) e else .no
    | _ => .no
def mCallP (g : Fn) (ms : M (List A1)) : M O := ms.bind fun as => mCallPK g as
theorem Len.callP {g : Fn} {ms : M (List A1)} (h : Len ms) : Len (mCallP g ms) := h.bind fun as => by
  constructor
  · intro e a e' q
    unfold mCallPK at q
    split at q
    · cases q
    · split at q
      · split at q
        · cases q; rfl
        · cases q
      · cases q
  · intro e c fs e' q
    unfold mCallPK at q
    split at q
    · cases q
    · split at q
      · split at q <;> cases q
      · cases q
theorem peekA_rep {K : PySem.W.Frag} {H : Hp} {σ : L2.St} {e : Sl} {L : List Item} (hl : e.length = σ.length) : ∀ {as : List A1} {vs : List V} {ds : List D}, peekA as e = some ds → lentOk σ as vs → G K [] H (itsA as vs ++ (e.zip σ ++ L)) → RepDs K H [] ds vs
  | [], [], ds, h, _, _ => by cases h; rfl
  | [], _ :: _, ds, h, lo, _ => lo.elim
  | .v o :: as, [], ds, h, lo, _ => lo.elim
  | .w o :: as, vs, ds, h, lo, _ => by cases h
  | .l i :: as, [], ds, h, lo, _ => lo.elim
  | .v o :: as, x :: vs, ds, h, lo, g => by
    unfold peekA at h
    obtain ⟨r, h1, rfl⟩ := Option.map_eq_some_iff.mp h
    have g1 : G K [] H ((some (.sh o.er), some x) :: (itsA as vs ++ (e.zip σ ++ L))) := g
    exact ⟨x, vs, rfl, g1.rep, peekA_rep hl h1 lo g1.tail⟩
  | .l i :: as, x :: vs, ds, h, lo, g => by
    unfold peekA at h
    split at h
    · rename_i o ho
      obtain ⟨r, h1, rfl⟩ := Option.map_eq_some_iff.mp h
      have g1 : G K [] H ((none, some x) :: (itsA as vs ++ (e.zip σ ++ L))) := g
      have g2 : G K [] H (e.zip σ ++ L) := g1.tail.right
      exact ⟨x, vs, rfl, (g2.take ho lo.1).er.rep, peekA_rep hl h1 lo.2 g1.tail⟩
    · cases h
section
variable {X : Cx} {W : WX} {a : Expr} {es : List Expr} {mas : M (List A1)} {x : Str} {pos p : Pos}
theorem se_callP {g : Fn} {np k j : Nat} (D : Df X.prog X.w X.K X.mg X.base k x np g) (hr : Room j X.A) (hk : k ≤ j) (tk : Takes X W) (hg : Gl X x) (ha : SAs X W (a :: es) mas) (hnp : (a :: es).length = np := by rfl) (hdb : (x == ("__debug__" : Str)) = false := by decide)
    (he : starEach (a :: es) X.env = (false, eval a X.env) :: starEach es X.env := by rfl) (hpl : (backTo pos (starEach es X.env)).any (·.1) = false := by rfl) : SE X W (.Call (.Name x p) (a :: es) [] pos) (mCallP (fun os => if os.length = np then g os else .no) mas) := by
  obtain ⟨f, fd, ps, hm, hkp, hps, hb, F⟩ := D.ex
  refine ⟨PE.imp (pe_callS (E := fun σ => L2.WE W σ) F (hr.mono hk) hg hm hkp hb (fun σ => passAt tk σ) ha.pa hdb he hpl) fun σ H Q h => ?_, ha.len.callP⟩
  obtain ⟨e, L, hl, gd, h⟩ := h
  refine ⟨e, L, hl, gd, h.bind.mono fun as e1 q1 ⟨_, h1⟩ vs H1 lo g1 => ?_⟩
  have l1 := (ha.len.1 _ _ _ q1).trans hl
  unfold mCallPK at h1
  cases qt : peekA as e1 with
  | none => simp only [qt] at h1; exact h1.elim
  | some ds =>
    simp only [qt] at h1
    have hr := peekA_rep l1 qt lo g1
    obtain ⟨B, b1, b3, b2⟩ := g1.right.aside
    by_cases hn : (ds.map O.sh).length = np
    · simp only [if_pos hn] at h1
      refine ⟨ds.map O.sh, _, by simpa using hr.len, hn, G.pinned hr b1 b3, ?_⟩
      cases qg : g (ds.map .sh) with
      | no => simp only [qg] at h1; exact h1.elim
      | exc c fs bk => simp only [qg] at h1; exact h1.elim
      | ok o bk =>
        simp only [qg] at h1
        match o, h1 with
        | .sh d, h1 =>
          have h1 : Post X.K X.mg W σ L (if d.flat = true then R.ok (O.sh d) e1 else .no) _ := h1
          by_cases hf : d.flat = true
          · rw [if_pos hf] at h1
            intro v H2 g3
            have g4 : G X.K [] H2 ((some (.pin B), some .non) :: ((some (.sh d), some v) :: bk.zip (vs.map some))) := by
              refine g3.perm ?_
              rw [← List.cons_append]
              exact List.perm_append_comm
            exact h1 v H2 ((b2 H2 g4.unpin).flat fun Z => flat_rep hf g3.rep)
          · rw [if_neg hf] at h1
            exact h1.elim
        | .lst _, h1 => exact h1.elim
        | .tup _, h1 => exact h1.elim
        | .tab _, h1 => exact h1.elim
        | .pin _, h1 => exact h1.elim
    · simp only [if_neg hn] at h1
      exact h1.elim
end
end Ow

set_option Elab.async false
set_option linter.all false
set_option maxRecDepth 100000
set_option maxHeartbeats 1000000
/-! Ow15: several clauses `except C as n`; the law's helper that tells how a lambda ended. -/
namespace Ow
open PySem PySem.Spec PyProof.Rows L2
/-- the ends behind a clause: its name goes -/
abbrev unset (i : Nat) (D : Ends) : Ends := { nx := fun σ' H' => D.nx (σ'.set i none) H', rt := D.rt, bk := fun σ' H' => D.bk (σ'.set i none) H', ct := fun σ' H' => D.ct (σ'.set i none) H' }
/-- what the clauses want of an exception of the body, one after the other; slot i is their name's -/
def wAsM (K : PySem.W.Frag) (nN i : Nat) (Wo : WX) (D : Ends) : List (Value × (Addr → Value → Option Addr → TS)) → WX
  | [] => Wo
  | (c, ts) :: r => fun cls d σ H => ∃ b, PySem.W.exmOne K cls c = some b ∧ (b = true → ∀ a, H a = none → σ.length = nN → ts a cls d (unset i D) (σ.set i (some (.ref a))) H) ∧ (b = false → wAsM K nN i Wo D r cls d σ H)
inductive HdsAs (X : Cx) (n : Str) : List ExceptHandler → List (Value × (Addr → Value → Option Addr → TS)) → Prop
  | nil : HdsAs X n [] []
  | cons {x : Str} {c : Value} {ts : Addr → Value → Option Addr → TS} {st : Stmt} {sts : List Stmt} {p1 p2 : Pos} {hds : List ExceptHandler} {l : List (Value × (Addr → Value → Option Addr → TS))} (hc : Names X x c)
      (hsu : ∀ (a : Addr) (oe : Obj) (cls : Value) (d : Option Addr) (pn : List (Addr × Obj)), Zc cls d oe → (∃ vs, oe.data = .fields vs) → PSs (X.suite a ((a, oe) :: pn)) (st :: sts) (ts a cls d)) (r : HdsAs X n hds l) :
      HdsAs X n (.ExceptHandler (some (.Name x p1)) (some n) (st :: sts) p2 :: hds) ((c, ts) :: l)
section
variable {X : Cx} {n : Str} {i : Nat} {body : List Stmt} {hd0 : ExceptHandler} {hds : List ExceptHandler} {l : List (Value × (Addr → Value → Option Addr → TS))} {pos : Pos} {tb : WX → TS} {Wo : WX}
theorem ps_try_asM (hs : X.stack = X.env :: X.outer) (hf : X.env.frame = some X.env.locals) (hN : X.N.Nodup) (hi : X.N[i]? = some n) (hln : X.env.kindOf n = some .local) (tk : Takes X Wo)
    (hb : ∀ (W : WX) (pn : List (Addr × Obj)) (xe : Value → Shared → Prop), Takes (X.tr pn xe) W → PassesOwn (model X.prog X.w) X.A X.env xe → PSs (X.tr pn xe) body (tb W))
    (hh : HdsAs X n (hd0 :: hds) l) : PS X (.Try body (hd0 :: hds) [] [] pos) (fun D σ H => tb (wAsM X.K X.N.length i Wo D l) D σ H) := by
  refine ⟨fun pins s σ H D I h => ?_⟩
  have ok := I.ok
  have fr : X.A.frames = some (X.env :: X.outer) := by rw [ok.frames, hs]
  have nloc : Loc X.env.scope n := .inl hln
  refine wpAny_Try_except ?_
  refine wpAny_mono ((hb (wAsM X.K X.N.length i Wo D l) (X.pn ++ pins) (fun e s₁ => wpAny (model X.prog X.w) X.A (noteFrame e X.env) (fun _ s₂ => wpAny (model X.prog X.w) X.A (setFlight e none) (fun _ s₃ =>
    wpAny (model X.prog X.w) X.A (handleBy e X.env (hd0 :: hds)) (SP X pins D) X.xe s₃) X.xe s₂) X.xe s₁) (fun u s' xx => ?_) PassesOwn.looking).run [] s σ H D (I.toTry _) h) (fun f s1 out => ?_) (fun e s1 q => q)
  · obtain ⟨a, B, sI, pins', σ', H', cls, d, rfl, J', nb, up, sky, na, os, ag, wish⟩ := xx
    have J : Inv X pins σ' H' sI := J'.ofTry ok
    have sky2 : Sky B (X.env :: X.outer) a (Zc cls d) X.env.locals s'.heap := by rw [← hs]; exact sky
    show wpAny (model X.prog X.w) X.A (noteFrame (.ref a) X.env) _ _ _
    refine Sky.land Zc.steady fr hf sky2 fun k3 fl3 up3 => ?_
    have J3 : Inv X pins σ' H' { s' with heap := k3 } := J.landed nb fl3.1 (up.trans up3) os ag
    obtain ⟨o3, v3, g3, z3, d3⟩ := fl3.there
    have noFrame : a ∉ frs (X.env :: X.outer) := fun hm => by
      obtain ⟨_, o', e', hnf⟩ := fl3.2.2.1.mem hm
      rw [g3] at e'
      cases e'
      exact hnf _ d3
    have nL : a ≠ X.env.locals := fun z => noFrame (List.mem_filterMap.mpr ⟨X.env, List.mem_cons_self, by rw [hf, z]⟩)
    have nF : a ∉ X.fs := fun hm => by
      obtain ⟨e, he, q⟩ := List.mem_filterMap.mp hm
      exact noFrame (List.mem_filterMap.mpr ⟨e, List.mem_cons_of_mem _ he, q⟩)
    have S3 := J3.suite g3 d3 na nL nF
    have go : ∀ {hds' : List ExceptHandler} {l' : List (Value × (Addr → Value → Option Addr → TS))}, HdsAs X n hds' l' → wAsM X.K X.N.length i Wo D l' cls d σ' H' →
        wpAny (model X.prog X.w) X.A (handleBy (.ref a) X.env hds') (SP X pins D) X.xe { s' with heap := k3 } := by
      intro hds' l' hk
      induction hk with
      | nil =>
        intro w
        refine wpAny_handleBy_nil ?_
        obtain ⟨_, _, _, oe, vs, T, oT, ts', he, hz, hd, h1, hr⟩ := id fl3
        unfold PySem.passOn
        refine wpAny_bind (wpAny_field he hd h1 (?_))
        rw [if_neg (show ¬ ((Value.ref T == Value.none) = true) by simp)]
        have fin : wpAny (model X.prog X.w) X.A (setFlight (.ref a) X.env.frame) (fun _ s4 => wpAny (model X.prog X.w) X.A (throw (.ref a) : Sem Flow) (SP X pins D) X.xe s4) X.xe { s' with heap := k3 } := by
          rw [hf]
          refine HandSPX.setFlight_upZ fl3 fun k4 hk4 up4 => wpAny_throw (tk _ _ ?_)
          exact ⟨a, B, sI, pins, σ', H', cls, d, rfl, J, nb, (up.trans up3).trans up4, .inr (.inr (by rw [hs]; exact hk4)), na, os, ag, w⟩
        first
          | exact wpAny_bind (wpAny_pure (wpAny_bind fin))
          | exact wpAny_bind fin
      | @cons x c ts st sts p1 p2 hds2 l2 hc hsu r ih =>
        intro w
        obtain ⟨b, hb1, yes, no⟩ := w
        refine wpAny_handleBy_cons (codeAny_handlers_test (?_)) (by intro q; cases q)
        have LT : PySem.W.Looks (model X.prog X.w) k3 (typeOf (.ref a)) cls := fun A Q E s k q => wpAny_typeOf_ref (k _ _ g3) (by rw [z3.1]; exact q)
        have LM := PySem.W.exm_one (M := model X.prog X.w) (J3.kIn) LT hb1
        have named : ∀ {Q : Value → Shared → Prop} {E : Value → Shared → Prop}, Q c { s' with heap := k3 } → wpAny (model X.prog X.w) (X.A.mark (some (.ref a))) (eval (.Name x p1) X.env) Q E { s' with heap := k3 } := fun {Q E} q => by
          obtain ⟨hg, dbg, hm | ⟨hm, hv, hnn⟩⟩ := hc
          · exact ld_glob (X := X.suite a ((a, o3) :: (X.pn ++ pins))) S3 hg hm q dbg
          · exact ld_blt (X := X.suite a ((a, o3) :: (X.pn ++ pins))) S3 hg hm hv q hnn dbg
        refine named (LM.here (?_))
        cases b with
        | true =>
          refine codeAny_handlers_suite_as (?_)
          refine HandSPX.lands_againZ fl3 fun k4 fl4 up4 => ?_
          have J4 : Inv X pins σ' H' { s' with heap := k4 } := J.landed nb fl4.1 ((up.trans up3).trans up4) os ag
          obtain ⟨o4, v4, g4, z4, d4⟩ := fl4.there
          have S4 := J4.suite g4 d4 na nL nF
          refine store_ok (X := X.suite a ((a, o4) :: (X.pn ++ pins))) (v := .ref a) S4 hN hi nloc rfl (fun s5 S5 => ?_) (.inr hln)
          refine wpAny_mono ((hsu a o4 cls d (X.pn ++ pins) z4 ⟨_, d4⟩).run [] s5 _ H' _ S5 (yes rfl a na J4.len)) (fun f s6 out => ?_) (fun _ _ z => False.elim z)
          have behind : ∀ {σ6 : L2.St} {H6 : Hp} {Q : Shared → Prop}, Inv (X.suite a ((a, o4) :: (X.pn ++ pins))) [] σ6 H6 s6 → (∀ s7, Inv X pins (σ6.set i none) H6 s7 → Q s7) →
              wpAny (model X.prog X.w) X.A (do bindName X.env n .none; unbindBehindTheSuite X.env n p2) (fun _ s7 => Q s7) X.xe s6 := fun {σ6 H6 Q} S6 q => gone_ok (S6.unsuite ok) hN hi hln q
          cases f with
          | next =>
            obtain ⟨σ6, H6, S6, q6⟩ := out
            exact behind S6 fun s7 J7 => ⟨_, _, J7, q6⟩
          | brk =>
            obtain ⟨σ6, H6, S6, q6⟩ := out
            exact behind S6 fun s7 J7 => ⟨_, _, J7, q6⟩
          | cont =>
            obtain ⟨σ6, H6, S6, q6⟩ := out
            exact behind S6 fun s7 J7 => ⟨_, _, J7, q6⟩
          | ret u =>
            obtain ⟨v6, σ6, H6, S6, r6, q6⟩ := out
            exact behind S6 fun s7 J7 => ⟨_, _, _, J7, r6, q6⟩
        | false =>
          show wpAny _ X.A (handleBy (.ref a) X.env hds2) _ _ _
          exact ih (no rfl)
    exact go hh wish
  · cases f with
    | next =>
      obtain ⟨σ', H', J', q⟩ := out
      exact wpAny_execs_nil ⟨σ', H', J'.ofTry ok, q⟩
    | brk =>
      obtain ⟨σ', H', J', q⟩ := out
      exact ⟨σ', H', J'.ofTry ok, q⟩
    | cont =>
      obtain ⟨σ', H', J', q⟩ := out
      exact ⟨σ', H', J'.ofTry ok, q⟩
    | ret u =>
      obtain ⟨v, σ', H', J', r, q⟩ := out
      exact ⟨v, σ', H', J'.ofTry ok, r, q⟩
end

/-! ### the helper that tells how a lambda ended -/
section
variable {K : PySem.W.Frag}
/-- a pair of a word and a value, new -/
def pairQ (w : Str) (Q : VK) (v : V) (H : Hp) : Prop := ∀ T, H T = none → Q (.ref T) (upd H T (.tup [.str w, v]))
/-- one clause: the class, the field that is told, the word -/
structure Cla where
  x : Str
  C : Addr
  f : Str
  w : Str
/-- what is wanted of an exception that the clauses take -/
def claE (cs : List Cla) (Q : VK) : XK := fun cls d H => ∃ c ∈ cs, cls = .ref c.C ∧ ∃ dd v, d = some dd ∧ H dd = some (.xd [(c.f, v)]) ∧ pairQ c.w Q v H
def TTw (cs : List Cla) (w0 : Str) : (XK → Hp → VK → Prop) → Hp → VK → Prop := fun tl H Q => tl (claE cs Q) H (pairQ w0 Q)
/-- each class is taken by its own clause, not by one before -/
def ClaOk (K : PySem.W.Frag) : List Cla → Prop
  | [] => True
  | c :: cs => PySem.W.exmOne K (.ref c.C) (.ref c.C) = some true ∧ (∀ c' ∈ cs, PySem.W.exmOne K (.ref c'.C) (.ref c.C) = some false) ∧ ClaOk K cs
def claT (K : PySem.W.Frag) (c : Cla) (a : Addr) (cls : Value) (d : Option Addr) : TS := tRet (fun σ H Q => tXf a cls d c.C c.f (tVar 1) σ H (pairQ c.w Q))
theorem wish_of {K : PySem.W.Frag} {Q : VK} {D : Ends} (hD : D.rt = Q) {Wo : WX} {cls : Value} {d : Option Addr} {σ : L2.St} {H : Hp} {n : Nat} (hn : 1 < n) : ∀ {cs : List Cla}, ClaOk K cs → claE cs Q cls d H → wAsM K n 1 Wo D (cs.map fun c => (.ref c.C, claT K c)) cls d σ H
  | [], _, ⟨c, hc, _⟩ => nomatch hc
  | c :: cs, ok, ⟨c', hc, e, dd, v, ed, hx, q⟩ => by
    rcases List.mem_cons.mp hc with z | z
    · subst z
      refine ⟨true, by rw [e]; exact ok.1, fun _ a na hl => ?_, fun z => by cases z⟩
      refine ⟨.ref a, by rw [List.getElem?_set_self (by omega)], rfl, e, dd, _, v, ed, hx, by simp [List.lookup], ?_⟩
      show pairQ c'.w D.rt v H
      rw [hD]
      exact q
    · refine ⟨false, by rw [e]; exact ok.2.1 c' z, fun z => (by cases z), fun _ => wish_of hD hn ok.2.2 ⟨c', z, e, dd, v, ed, hx, q⟩⟩
/-- the facts of a clause's class -/
structure ClaF (K : PySem.W.Frag) (mg : Str → Option Value) (sg : Scope) (c : Cla) : Prop where
  m : mg c.x = some (.ref c.C)
  g : sg.names.lookup c.x = some .globalImplicit
  d : (c.x == ("__debug__" : Str)) = false
  T : XfC K c.C
  no : PySem.W.findIn K (.ref c.C) c.f = some none
/-- one clause, as it is written -/
inductive ClaW (n : Str) : List Cla → List ExceptHandler → Prop
  | nil : ClaW n [] []
  | cons {c : Cla} {cs : List Cla} {hds : List ExceptHandler} {p1 p2 p3 p4 p5 p6 p7 : Pos} {k j : Nat} (r : ClaW n cs hds) :
      ClaW n (c :: cs) (.ExceptHandler (some (.Name c.x p1)) (some n) [.Return (some (.Tuple [.Constant (.str c.w) j p2, .Attribute (.Name n p3) c.f p4] k p5)) p6] p7 :: hds)
theorem hds_of {X : Cx} {n : Str} {cs : List Cla} {hds : List ExceptHandler} (hw : ClaW n cs hds) (hF : ∀ c ∈ cs, ClaF X.K X.mg X.env.scope c) (hN : X.N[1]? = some n) (hv : Vis X.env.scope n) (hnd : (n == ("__debug__" : Str)) = false) (hncd : (n == ("__classdict__" : Str)) = false)
    (hst : ∀ (j : Nat) (w f : Str) (p2 p3 p4 : Pos), starEach [.Constant (.str w) j p2, .Attribute (.Name n p3) f p4] X.env = (false, eval (.Constant (.str w) j p2) X.env) :: starEach [.Attribute (.Name n p3) f p4] X.env)
    (hst2 : ∀ (f : Str) (p3 p4 : Pos), starEach [.Attribute (.Name n p3) f p4] X.env = (false, eval (.Attribute (.Name n p3) f p4) X.env) :: starEach [] X.env) (hb : ∀ (f : Str) (p : Pos), attributeBase (.Name n p) f X.env (eval (.Name n p) X.env) = eval (.Name n p) X.env) :
    HdsAs X n hds (cs.map fun c => (.ref c.C, claT X.K c)) := by
  induction hw with
  | nil => exact .nil
  | @cons c cs hds p1 p2 p3 p4 p5 p6 p7 k j r ih =>
    obtain ⟨m, g, d, T, no⟩ := hF c List.mem_cons_self
    refine .cons ⟨g, d, .inl m⟩ (fun a oe cls dx pn hz hf => ?_) (ih fun c' h => hF c' (List.mem_cons_of_mem _ h))
    have pv : PE (X.suite a ((a, oe) :: pn)) (.Name n p3) (tVar 1) := pe_var hN hv hnd hncd
    have px := pe_xf (pos := p4) (n := c.f) T no hz hf pv (hb _ _)
    have pt := pss_one (ps_ret (pos := p6) (pe_tup (x1 := k) (pos := p5) (pa_cons (pe_str (x := c.w) (j := j) (pos := p2)) (pa_cons px pa_nil (hst2 _ _ _)) (hst _ _ _ _ _ _))))
    refine PSs.imp pt fun D σ H h => ?_
    obtain ⟨x, hx, ex, ec, dd, fs, v, ed, ea, hl, q⟩ := h
    exact ⟨x, hx, ex, ec, dd, fs, v, ed, ea, hl, by show 2 ≤ sizeLine; decide, q⟩
open LamX in
theorem words_gives {X : Cx} {Ng : List Str} {x a n q w0 : Str} {sg : Scope} {g : Addr} {cdg : Value} {cs : List Cla} {hd0 : ExceptHandler} {hds : List ExceptHandler} {j k : Nat} {p1 p2 p3 p4 p5 p8 : Pos} (hw : ClaW n cs (hd0 :: hds)) (hF : ∀ c ∈ cs, ClaF X.K X.mg sg c) (hok : ClaOk X.K cs)
    (hN : Ng = [a, n]) (hnd2 : Ng.Nodup) (hln : sg.names.lookup n = some .local) (hnd : (n == ("__debug__" : Str)) = false) (hncd : (n == ("__classdict__" : Str)) = false) :
    GivesTo X Ng x sg g cdg [.Try [.Return (some (.Tuple [.Constant (.str w0) j p5, .Call (.Name a p1) [] [] p2] k p3)) p4] (hd0 :: hds) [] [] p8] a q (TTw cs w0) := by
  intro f c' s H Q tl act hc h
  subst hN
  have hd := hds_of (X := (cxOf C8.CX0 X.prog X.w X.K X.mg X.base [a, n] x sg g cdg X.A X.stack s H C8.E0).nox) hw hF rfl (.inl hln) hnd hncd (fun _ _ _ _ _ _ => rfl) (fun _ _ _ => rfl) fun _ _ => rfl
  refine ⟨_, pss_one (ps_try_asM (X := (cxOf C8.CX0 X.prog X.w X.K X.mg X.base [a, n] x sg g cdg X.A X.stack s H C8.E0).nox) (n := n) (i := 1)
      (tb := fun W D σ H => ∃ Ech : XK, (∀ cls d σ' H', Ech cls d H' → W cls d σ' H') ∧ σ[0]? = some (some (.ref f)) ∧ H c' = some (CodeO c' q) ∧ tl Ech H (pairQ w0 D.rt))
      rfl rfl hnd2 rfl hln LamX.takes0 (fun W pn xe tk _ => ?_) hd), ?_⟩
  · refine ⟨fun pins s' σ H' D I h' => ?_⟩
    obtain ⟨Ech, hW, h1, h2, h3⟩ := h'
    have hp := act W pn xe Ech p1 p2 tk hW
    have hq := pss_one (ps_ret (pos := p4) (pe_tup (x1 := k) (pos := p3) (pa_cons (pe_str (x := w0) (j := j) (pos := p5)) (pa_cons hp pa_nil))))
    refine hq.run pins s' σ H' D I ⟨h1, h2, ?_⟩
    have e : (fun (u : V) (H1 : Hp) => ([V.str w0, u] : List V).length ≤ sizeLine ∧ ∀ T, H1 T = none → D.rt (.ref T) (upd H1 T (.tup [.str w0, u]))) = pairQ w0 D.rt := by
      funext u H1
      exact propext ⟨fun z => z.2, fun z => ⟨by show 2 ≤ sizeLine; decide, z⟩⟩
    show tl Ech H' (fun u H1 => ([V.str w0, u] : List V).length ≤ sizeLine ∧ ∀ T, H1 T = none → D.rt (.ref T) (upd H1 T (.tup [.str w0, u])))
    rw [e]
    exact h3
  · exact ⟨claE cs Q, fun cls d σ' H' z => wish_of rfl (by show 1 < 2; decide) hok z, rfl, hc, h⟩
end

/-! ### at the law's level -/
abbrev Cl3 := Str × Str × Str
def Cla.c3 (c : Cla) : Cl3 := (c.x, c.f, c.w)
def wordR (cs : List Cl3) (w0 : Str) : R O → R O
  | .ok o e => .ok (.tup [.sh (.str w0), o]) e
  | .exc c fs e => match cs.find? (fun z => z.1 == c), fs with
    | some z, [(f, d)] => if z.2.1 = f then .ok (.sh (.tup [.str z.2.2, d])) e else .no
    | _, _ => .no
  | .no => .no
def mWords (ti : Nat) (q : Str) (cs : List Cl3) (w0 : Str) (m : M O) : M O := slotM ti fun o => match o with
  | .tab q' => if q' = q then fun e => wordR cs w0 (m e) else M.no
  | _ => M.no
theorem Len.wordR {cs : List Cl3} {w0 : Str} {m : M O} (h : Len m) : Len (fun e => Ow.wordR cs w0 (m e)) := by
  constructor
  · intro e a e' q
    cases hm : m e with
    | ok o e1 =>
      simp only [hm, Ow.wordR] at q
      cases q
      exact h.1 _ _ _ hm
    | exc c fs e1 =>
      simp only [hm, Ow.wordR] at q
      split at q
      · split at q
        · cases q
          exact h.2 _ _ _ _ hm
        · cases q
      · cases q
    | no => simp only [hm, Ow.wordR] at q; cases q
  · intro e c fs e' q
    cases hm : m e with
    | ok o e1 => simp only [hm, Ow.wordR] at q; cases q
    | exc c fs e1 =>
      simp only [hm, Ow.wordR] at q
      split at q
      · split at q <;> cases q
      · cases q
    | no => simp only [hm, Ow.wordR] at q; cases q
theorem Len.words {ti : Nat} {q w0 : Str} {cs : List Cl3} {m : M O} (h : Len m) : Len (mWords ti q cs w0 m) := Len.slot fun o => by
  split
  · split
    · exact h.wordR
    · exact Len.no
  · exact Len.no
mutual
theorem RepO.kinds {K : PySem.W.Frag} {H : Hp} {Z : List Addr} : ∀ (o : O) (v : V) (F : List Addr), RepO K H Z o v F → ∀ b ∈ F, ∃ x, H b = some x ∧ ((∃ vs, x = .lst vs) ∨ ∃ ps, x = .tbl ps)
  | .sh d, v, F, h, b, hb => by rw [h.1] at hb; cases hb
  | .lst xs, v, F, h, b, hb => by
    obtain ⟨a, vs, F', e, n, ha, hs, eF⟩ := h
    rw [eF] at hb
    rcases List.mem_cons.mp hb with z | z
    · rw [z]; exact ⟨_, ha, .inl ⟨_, rfl⟩⟩
    · exact RepOs.kinds xs vs F' hs b z
  | .tup xs, v, F, h, b, hb => by
    obtain ⟨a, vs, e, n, r, hs⟩ := h
    exact RepOs.kinds xs vs F hs b hb
  | .tab q, v, F, h, b, hb => by
    obtain ⟨_, eF, ps, h1, _⟩ := h
    rw [eF] at hb
    rw [List.mem_singleton.mp hb]
    exact ⟨_, h1, .inr ⟨_, rfl⟩⟩
  | .pin B, v, F, h, b, hb => by rw [h.2.1] at hb; cases hb
theorem RepOs.kinds {K : PySem.W.Frag} {H : Hp} {Z : List Addr} : ∀ (xs : List O) (vs : List V) (F : List Addr), RepOs K H Z xs vs F → ∀ b ∈ F, ∃ x, H b = some x ∧ ((∃ vs, x = .lst vs) ∨ ∃ ps, x = .tbl ps)
  | [], vs, F, h, b, hb => by rw [h.2] at hb; cases hb
  | x :: xs, vs, F, h, b, hb => by
    obtain ⟨v, r, F1, F2, e, h1, h2, eF⟩ := h
    rw [eF] at hb
    rcases List.mem_append.mp hb with z | z
    · exact RepO.kinds x v F1 h1 b z
    · exact RepOs.kinds xs r F2 h2 b z
end
theorem kinds {K : PySem.W.Frag} {H : Hp} {Z : List Addr} : ∀ {L : List Item} {F : List Addr}, RepL K H Z L F → ∀ b ∈ F, ∃ x, H b = some x ∧ ((∃ vs, x = .lst vs) ∨ ∃ ps, x = .tbl ps)
  | [], F, h, b, hb => by rw [show F = [] from h] at hb; cases hb
  | i :: L, F, h, b, hb => by
    obtain ⟨F1, F2, h1, h2, eF⟩ := h
    rw [eF] at hb
    rcases List.mem_append.mp hb with z | z
    · rcases i with ⟨_ | o, _ | v⟩
      · rw [show F1 = [] from h1] at z; cases z
      · rw [show F1 = [] from h1] at z; cases z
      · exact (show False from h1).elim
      · exact RepO.kinds o v F1 h1 b z
    · exact kinds h2 b z
/-- a lambda was made: the table has grown -/
theorem G.table {K : PySem.W.Frag} {H H1 : Hp} {q : Str} {v : V} {L : List Item} (g : G K [] H ((some (.tab q), some v) :: L)) (eN : LamX.ExtN H H1) (T1 : LamX.TabS H1 (tabK K) q) : G K [] H1 ((some (.tab q), some v) :: L) := by
  obtain ⟨F, ⟨F1, F2, h1, h2, eF⟩, nd⟩ := g
  have e1 : F1 = [tabK K] := h1.2.1
  subst e1
  have eF : F = tabK K :: F2 := eF
  subst eF
  have nF : tabK K ∉ F2 := by
    rw [List.nil_append, List.nodup_cons] at nd
    exact nd.1
  obtain ⟨B, b1, b3, b2⟩ := h2.pins
  have bH : Holds B H1 := fun p hp => eN _ _ (b1 p hp) fun ps e => by
    obtain ⟨z1, z2⟩ := b3 p hp ps e
    rcases z2 with z2 | z2
    · rw [z1] at z2; exact nF z2
    · exact z2 (by rw [z1]; exact List.mem_cons_self)
  have h3 := b2 H1 bH
  refine ⟨tabK K :: F2, ⟨[tabK K], F2, ⟨h1.1, rfl, ?_⟩, h3, rfl⟩, nd⟩
  obtain ⟨ps, t1, t2, t3⟩ := T1
  refine ⟨ps, t1, t2, fun pos cv hc => ?_⟩
  obtain ⟨c, ec, hcode⟩ := t3 pos cv hc
  refine ⟨c, ec, fun z => ?_, hcode⟩
  rcases List.mem_cons.mp z with z | z
  · rw [z, t1] at hcode
    exact LamX.codeO_ne ps (Option.some.inj hcode).symm
  · obtain ⟨x, hx, hk⟩ := kinds h3 c z
    rw [hcode] at hx
    cases hx
    rcases hk with ⟨vs, hk⟩ | ⟨ps, hk⟩
    · unfold LamX.CodeO at hk
      cases hk
    · exact LamX.codeO_ne ps hk
theorem se_words {X : Cx} {W : WX} {x a n w0 : Str} {g c : Addr} {k j jj kk : Nat} {pg : Arguments} {sg : Scope} {dV kV doc pm cdv ct oc : Value} {an od : Option Addr} {osl : Array (Option Value)} {cs : List Cla} {hd0 : ExceptHandler} {hds : List ExceptHandler} {p1 p2 p3 p4 p5 p8 : Pos}
    {params : Arguments} {body : Expr} {scope : Scope} {m : M O} {p lpos pos : Pos} (ti : Nat) (hti : ti < X.N.length) (hg : Gl X x) (hm : X.mg x = some (.ref g)) (hk : PySem.W.keepIn X.K (.ref g) = true)
    (lk : X.K.lookup g = some ⟨oc, od, .func (PySem.W.fnOf x x pg [.Try [.Return (some (.Tuple [.Constant (.str w0) jj p5, .Call (.Name a p1) [] [] p2] kk p3)) p4] (hd0 :: hds) [] [] p8] sg dV kV doc pm an cdv ct), osl⟩) (hcg : PySem.W.codeIn X.K cdv x = true)
    (hb : L2.Binds X.K (PySem.W.fnOf x x pg [.Try [.Return (some (.Tuple [.Constant (.str w0) jj p5, .Call (.Name a p1) [] [] p2] kk p3)) p4] (hd0 :: hds) [] [] p8] sg dV kV doc pm an cdv ct) [a] []) (Sg : FnScope [a, n] [a] sg) (hva : Vis sg a)
    (hw : ClaW n cs (hd0 :: hds)) (hF : ∀ c ∈ cs, ClaF X.K X.mg sg c) (hok : ClaOk X.K cs) (hln : sg.names.lookup n = some .local) (hnd : (n == ("__debug__" : Str)) = false) (hncd : (n == ("__classdict__" : Str)) = false)
    (TB : LamX.TabB X.base X.mg c (tabK X.K)) (hcode : X.env.code = .ref c) (hr : Room j X.A) (hj : k + 2 ≤ j) (L : LamX.LamS X.env.scope scope) (hdef : defaultsOf params X.env = ([], []))
    (hbind : ∀ (q : Str) (cl : List (Str × Addr)) (pm cv ctv : Value), bindArgs (PySem.W.kla_fn "<lambda>" q params body scope cl pm cv ctv) ⟨[], []⟩ = pure [])
    (hbody : ∀ (A : Around) (outer : List Env) (s : Shared) (H : Hp) (E : XK) (f c' : Addr), Room k (A.deeper (LamX.lamEnv X scope s.heap.objs.size f c')) → SE (LamX.lamCx X A outer s H E scope f c') (WE E) body m) (hl : Len m)
    (hdb : (x == ("__debug__" : Str)) = false := by decide) (hd : (a == ("__debug__" : Str)) = false := by decide) (hcd : (a == ("__classdict__" : Str)) = false := by decide) :
    SE X W (.Call (.Name x p) [.Lambda params body scope lpos] [] pos) (mWords ti (X.env.qual ++ "<lambda>") (cs.map Cla.c3) w0 m) := by
  have hG : LamX.GivesTo X [a, n] x sg g cdv _ a (X.env.qual ++ "<lambda>") (TTw cs w0) := words_gives (p1 := p1) (p2 := p2) (p3 := p3) (p4 := p4) (p5 := p5) (p8 := p8) (j := jj) (k := kk) hw hF hok rfl Sg.nd hln hnd hncd
  refine ⟨PE.imp (LamX.pe_lamcall (T := [(tabK X.K, X.env.qual ++ "<lambda>")]) (t := fun E => tM X.K X.mg (WE E) m) hg hm hk lk hcg hb Sg rfl hva hG TB hcode List.mem_cons_self (fun p hp _ => by rw [List.mem_singleton.mp hp]) (hr.mono hj) L hdef hbind
    (fun A outer s H E f c' hr' => (hbody A outer s H E f c' hr').pe) hdb hd hcd) fun σ H Q h => ?_, hl.words⟩
  obtain ⟨e, L0, hle, gd, h⟩ := h
  obtain ⟨o, ho, h⟩ := Post.slot h
  obtain ⟨v, hv⟩ := slot_val ho hle gd
  have gt := gd.take ho hv
  match o, ho, h, gt with
  | .tab q, ho, h, gt =>
    have h0 : Post X.K X.mg W σ L0 ((if q = X.env.qual ++ "<lambda>" then fun e => wordR (cs.map Cla.c3) w0 (m e) else M.no) e) _ := h
    clear h
    by_cases hq : q = X.env.qual ++ "<lambda>"
    · subst hq
      rw [if_pos rfl] at h0
      have h : Post X.K X.mg W σ L0 (wordR (cs.map Cla.c3) w0 (m e)) _ := h0
      clear h0
      refine ⟨fun p hp => ?_, fun H1 eN T1 => ?_⟩
      · rw [List.mem_singleton.mp hp]
        obtain ⟨F, ⟨F1, F2, h1, _⟩, _⟩ := gt
        obtain ⟨_, _, ps, t1, t2, t3⟩ := h1
        exact ⟨ps, t1, t2, fun pos cv hc => let ⟨c, e1, _, e2⟩ := t3 pos cv hc; ⟨c, e1, e2⟩⟩
      · have g1 : G X.K [] H1 (e.zip σ ++ L0) := by
          have g2 := G.put' ho hv (G.table gt eN (T1 _ List.mem_cons_self))
          rwa [set_id ho] at g2
        show tM X.K X.mg (WE (claE cs Q)) m σ H1 (pairQ w0 Q)
        refine ⟨e, L0, hle, g1, ?_⟩
        cases hm' : m e with
        | no => simp only [hm', wordR] at h; exact h.elim
        | ok o1 e1 =>
          simp only [hm', wordR] at h
          intro u H2 g2 T nT
          refine h (.ref T) _ ?_
          have g3 : G X.K [] H2 (its [O.sh (.str w0), o1] [.str w0, u] ++ (e1.zip σ ++ L0)) := g2.flat fun Z => rfl
          exact g3.newT rfl (by show 2 ≤ sizeLine; decide) nT
        | exc cn fs e1 =>
          simp only [hm', wordR] at h
          cases hf : (cs.map Cla.c3).find? (fun z => z.1 == cn) with
          | none => rw [hf] at h; exact h.elim
          | some z =>
            rw [hf] at h
            match fs, h with
            | [(f, d)], h =>
              have h : Post X.K X.mg W σ L0 (if z.2.1 = f then R.ok (O.sh (.tup [.str z.2.2, d])) e1 else .no) _ := h
              by_cases hfe : z.2.1 = f
              · rw [if_pos hfe] at h
                have z1 := List.find?_some hf
                have z2 := List.mem_of_find?_eq_some hf
                obtain ⟨cl, hcl, rfl⟩ := List.mem_map.mp z2
                have z1 : cl.x = cn := by simpa [Cla.c3] using z1
                have hfe : cl.f = f := hfe
                intro C dd vs H2 hc hlen hdd g2
                match vs, hlen with
                | [y], _ =>
                  refine ⟨cl, hcl, ?_, dd, y, rfl, ?_, fun T nT => ?_⟩
                  · have := (hF cl hcl).m
                    rw [z1, hc] at this
                    exact Option.some.inj this
                  · rw [hfe]; exact hdd
                  · refine h (.ref T) _ ?_
                    have g3 : G X.K [] H2 (its ([D.str cl.w, d].map .sh) [.str cl.w, y] ++ (e1.zip σ ++ L0)) := (show G X.K [] H2 ((some (.sh d), some y) :: (e1.zip σ ++ L0)) from g2).flat fun Z => rfl
                    exact g3.newTs rfl (by show 2 ≤ sizeLine; decide) nT
              · rw [if_neg hfe] at h
                exact h.elim
            | [], h => exact h.elim
            | _ :: _ :: _, h => exact h.elim
    · rw [if_neg hq] at h0
      exact h0.elim
  | .sh _, ho, h, gt => exact h.elim
  | .lst _, ho, h, gt => exact h.elim
  | .tup _, ho, h, gt => exact h.elim
  | .pin _, ho, h, gt => exact h.elim
end Ow

set_option Elab.async false
set_option linter.all false
set_option maxRecDepth 100000
set_option maxHeartbeats 1000000
/-! Ow16: what is never run; list.count; a loop over an owned list that changes its items; an exception's __init__. -/
namespace Ow
open PySem PySem.Spec PyProof.Rows L2
section
variable {X : Cx} {W : WX} {io : List Nat} {a b : Expr} {ma mb : M O} {pos p : Pos} {x : Str} {K : PySem.W.Frag} {mg : Str → Option Value}
/-! ### never run -/
theorem se_dead {e : Expr} : SE X W e M.no := ⟨⟨fun _ _ _ _ _ _ ⟨_, _, _, _, h⟩ => h.elim⟩, Len.no⟩
theorem st_dead {e : Expr} : ST X W e M.no := ⟨⟨fun _ _ _ _ _ _ ⟨_, _, _, _, h⟩ => h.elim⟩, Len.no⟩
theorem ss_dead {st : Stmt} : SS X W io st M.no := ⟨⟨fun _ _ _ _ _ _ ⟨_, _, _, _, h⟩ => h.elim⟩, Len.no⟩
theorem sb_dead {st : List Stmt} : SB X W io st M.no := ⟨⟨fun _ _ _ _ _ _ ⟨_, _, _, _, h⟩ => h.elim⟩, Len.no⟩
/-! ### l.count(x) -/
def rCountD (K : PySem.W.Frag) : V → List V → Hp → VK → Prop := fun x xs H Q => ∃ (l : Addr) (y : V) (d : PyData) (ds : List PyData), x = V.ref l ∧ xs = [y] ∧ Dp K H (V.ref l) (.list ds) ∧ Dp K H y d ∧ SeqAt.shaped (.list ds) = true ∧ SeqAt.shaped d = true ∧ Q (.int ((ds.countP fun z => PyData.eqv z d : Nat) : Int)) H
theorem mt_countD (hu : X.A.units + 65 < cLine) : MtR X "list.count" (rCountD X.K) := by
  intro pins s σ H x xs v us Q I rx rxs h
  obtain ⟨l, y, d, ds, rfl, rfl, hl, hy, sl, sd, q⟩ := h
  cases rx
  obtain ⟨uy, rfl, ry⟩ := rxs.one
  obtain ⟨bs, r1⟩ := Dp.reads I d y uy hy ry
  have lay : PyData.canLayAll0 ds = true := SeqAt.canLay_of_shaped sl
  have room : X.A.units + 1 + min (PyData.depthAll ds) d.depth < cLine := room_in_shaped sd hu
  cases hl with
  | lst hs ha =>
    obtain ⟨its, rv, ⟨⟨cl, dd, dt, sls⟩, n, ho, hc, hdn, hdt⟩, hlen⟩ := I.list hs
    simp only at hc hdt
    subst hc hdt
    obtain ⟨as, h4⟩ := Dp.readsAll I ds _ its ha rv
    have hmap : its.map (SeqAt.readOf s.heap) = ds := SeqAt.readsAll_map ds its as lay h4
    refine call_meets PySem.F.slot_list_count ⟨_, ho, rfl⟩ PySem.F.entry_list_count (PySem.F.args_list_count_2 _ _)
      (SeqAt.list_countAt l its.toArray n dd sls uy (fun u => PyData.eqv (SeqAt.readOf s.heap u) d)) ⟨ho, SeqAt.items_eqAt (vs := its.toArray) (show ReadsAll s.heap its.toArray.toList ds as from h4) r1 lay (SeqAt.canLay_of_shaped sd) room, ?_⟩
    have ec : its.toArray.toList.countP (fun u => PyData.eqv (SeqAt.readOf s.heap u) d) = ds.countP fun z => PyData.eqv z d := by
      rw [← hmap, List.countP_map]
      rfl
    refine ⟨.int ((ds.countP fun z => PyData.eqv z d : Nat) : Int), H, I.tok _, ⟨s.toks, ?_⟩, q⟩
    show Value.int ((its.toArray.toList.countP (fun u => PyData.eqv (SeqAt.readOf s.heap u) d) : Nat) : Int) s.toks = _
    rw [ec]
def countF : D → D → Option O
  | .lst xs, y => if (D.lst xs).eqb && y.eqb then some (.sh (.int ((xs.countP fun z => PyData.eqv z.py y.py : Nat) : Int))) else none
  | _, _ => none
def D.isL : D → Option (List D)
  | .lst xs => some xs
  | _ => none
theorem isL_some {d : D} {xs : List D} (h : d.isL = some xs) : d = .lst xs := by
  cases d <;> first | (cases h; rfl) | cases h
def mCount (mo me : M O) : M O := mo.bind fun x => (ofG x.er.isL).bind fun xs => me.bind fun y => ofOpt (countF (.lst xs) y.er)
theorem count_pys (xs : List D) (d : PyData) : (D.pys xs).countP (fun z => PyData.eqv z d) = xs.countP fun z => PyData.eqv z.py d := by
  rw [D.pys_map, List.countP_map]
  rfl
theorem se_count {apos : Pos} (hu : X.A.units + 65 < cLine) (ho : SE X W a ma) (he : SE X W b mb) (nb : starEach [b] X.env = (false, eval b X.env) :: starEach [] X.env := by rfl) (hbase : attributeBase a "count" X.env (eval a X.env) = eval a X.env := by rfl)
    (hfew : ((backTo pos (starEach [b] X.env)).all (fun x => !x.1) && (backToKw pos (keywordEach [] X.env)).all (fun x => x.1.isSome) && decide ([b].length + ([] : List Keyword).length + (if ([] : List Keyword).isEmpty then 0 else 1) < 30)) = true := by rfl)
    (hline : (apos.endLine == pos.line) = true := by rfl) (hplain : (backTo pos (starEach [] X.env)).any (·.1) = false := by rfl) : SE X W (.Call (.Attribute a "count" apos) [b] [] pos) (mCount ma mb) := by
  refine ⟨PE.imp (pe_bm F.plainAttrs_list F.slot_list_count F.type_list_count (mt_countD hu) ho.pe (sa_cons he sa_nil nb).pa hbase hfew hline nb hplain) fun σ H Q h => ?_, ho.len.bind fun _ => Len.ofG.bind fun _ => he.len.bind fun _ => Len.opt⟩
  obtain ⟨e, L, hl, g, h⟩ := h
  refine ⟨e, L, hl, g, h.bind.mono fun o e1 q1 ⟨_, h1⟩ v H1 g1 => ?_⟩
  cases hL : o.er.isL with
  | none => rw [hL] at h1; exact h1.elim
  | some xs =>
    rw [hL] at h1
    have eo := isL_some hL
    have g1' := g1.er
    rw [eo] at g1'
    obtain ⟨l, vs, rfl, hH, n, el, _⟩ := g1'.lst
    refine ⟨.inl ⟨rfl, vs, .inl (.inl hH)⟩, ?_⟩
    have h1 : Post X.K X.mg W σ L ((mb.bind fun y => ofOpt (countF (.lst xs) y.er)) e1) _ := h1
    have h2 := h1.bind
    refine ⟨e1, (some (.sh (.lst xs)), some (.ref l)) :: L, (ho.len.1 _ _ _ q1).trans hl, g1'.perm List.perm_middle.symm, ?_⟩
    unfold mCons M.bind
    cases q2 : mb e1 with
    | no => rw [q2] at h2; exact h2.elim
    | exc c fs e2 =>
      rw [q2] at h2
      exact XOk.more (M := [_]) (show XOk X.K X.mg c fs (e2.zip σ ++ L) fun C d H' => W C d σ H' from h2)
    | ok y e2 =>
      rw [q2] at h2
      obtain ⟨_, h3⟩ := (show _ ∧ _ from h2)
      refine fun (vs : List V) (H2 : Hp) (el2 : [y].length = vs.length) g2 => ?_
      match vs, el2, g2 with
      | [w], _, g2 =>
        have g3 : G X.K [] H2 ((some y, some w) :: (e2.zip σ ++ ((some (.sh (.lst xs)), some (.ref l)) :: L))) := g2
        cases hq : countF (.lst xs) y.er with
        | none => rw [hq] at h3; exact h3.elim
        | some o' =>
          rw [hq] at h3
          have hq : (if (D.lst xs).eqb && y.er.eqb then some (O.sh (.int ((xs.countP fun z => PyData.eqv z.py y.er.py : Nat) : Int))) else none) = some o' := hq
          split at hq
          · rename_i hcc
            cases hq
            rw [Bool.and_eq_true] at hcc
            obtain ⟨c1, c2⟩ := hcc
            unfold D.eqb at c1 c2
            rw [Bool.and_eq_true] at c1 c2
            have r1 : RepD X.K H2 [] (.lst xs) (.ref l) := by
              have g4 : G X.K [] H2 ((some (.sh (.lst xs)), some (.ref l)) :: ((some y, some w) :: (e2.zip σ ++ L))) := g3.perm ((List.Perm.cons _ List.perm_middle).trans (List.Perm.swap _ _ _))
              exact g4.rep
            refine ⟨l, w, y.er.py, D.pys xs, rfl, rfl, RepD.dp (.lst xs) _ c1.1 r1, RepD.dp _ _ c2.1 g3.er.rep, c1.2, c2.2, ?_⟩
            rw [count_pys]
            refine h3 _ H2 ?_
            have g5 : G X.K [] H2 (e2.zip σ ++ L) := ((g3.tail).perm List.perm_middle).tail
            exact g5.flat fun Z => rfl
          · cases hq
end
/-! ### an exception's __init__ -/
theorem ok_init {P : Program} {w : World} {K : PySem.W.Frag} {mg : Str → Option Value} {base : Heap} {fI C : Addr} {fd : FuncData} {qual v f : Str} {params : Arguments} {scope : Scope} {p1 p2 p3 p4 : Pos} (F : FunD K "__init__" qual params [.Assign [.Attribute (.Name "self" p1) f p2] (.Name v p3) p4] scope [] [] fI fd)
    (S : FnScope ["self", v] ["self", v] scope) (T : OexC K C) (no : PySem.W.findIn K (.ref C) f = some none) (hd : (v == ("__debug__" : Str)) = false := by decide) (hcd : (v == ("__classdict__" : Str)) = false := by decide) : FnOk P w K mg base (L2.CX P w) 1 fI fd ["self", v] (spInit C f) := by
  refine F.ok S (fun vs H Q E h => ?_) (fun cdv A outer s H vs Q E hr h => ?_)
  · obtain ⟨a, y, rfl, _⟩ := h
    rfl
  · have v0 : Vis scope "self" := vis_par S List.mem_cons_self
    have v1 : Vis scope v := vis_par S (List.mem_cons_of_mem _ List.mem_cons_self)
    refine ⟨_, pss_one (ps_ost (pe_var (i := 0) rfl v0) (pe_var (i := 1) rfl v1 hd hcd)), ?_⟩
    obtain ⟨a, y, rfl, ha, q⟩ := h
    exact ⟨y, rfl, .ref a, rfl, a, C, rfl, T, no, .inl ⟨ha, fun dx h1 h2 => q dx h1 h2⟩⟩
end Ow

set_option Elab.async false
set_option linter.all false
set_option maxRecDepth 100000
set_option maxHeartbeats 1000000
/-! Ow17: for y in x, x a name with an owned list: each item is the body's while its turn lasts. -/
namespace Ow
open PySem PySem.Spec PyProof.Rows L2
def loopO (i t : Nat) (mb : M Fl) : Nat → Nat → List O → M Fl
  | 0, _, os => fun e => .ok .nx (e.set i (some (.lst os)))
  | n + 1, k, os => fun e => match os[k]? with
    | none => .no
    | some o => match mb (e.set t (some o)) with
      | .ok .nx e' => (match e'[t]? with
        | some (some o') => loopO i t mb n (k + 1) (os.set k o') (e'.set t none)
        | _ => .no)
      | _ => .no
def mForO (i t : Nat) (mb m1 : M Fl) : M Fl := fun e => match e[i]? with
  | some (some (.lst os)) => loopO i t mb os.length 0 os (e.set i none)
  | _ => m1 e
theorem Len.loopO {i t : Nat} {mb : M Fl} (h : Len mb) : ∀ n k os, Len (Ow.loopO i t mb n k os)
  | 0, _, os => Len.set
  | n + 1, k, os => by
    constructor
    · intro e a e' q
      unfold Ow.loopO at q
      split at q
      · cases q
      · split at q
        · rename_i o e1 h1
          split at q
          · have := (Len.loopO h n (k + 1) _).1 _ _ _ q
            rw [this, List.length_set, h.1 _ _ _ h1, List.length_set]
          · cases q
        · cases q
    · intro e c fs e' q
      unfold Ow.loopO at q
      split at q
      · cases q
      · split at q
        · rename_i o e1 h1
          split at q
          · have := (Len.loopO h n (k + 1) _).2 _ _ _ _ q
            rw [this, List.length_set, h.1 _ _ _ h1, List.length_set]
          · cases q
        · cases q
theorem Len.forO {i t : Nat} {mb m1 : M Fl} (h : Len mb) (h1 : Len m1) : Len (mForO i t mb m1) := by
  constructor
  · intro e a e' q
    unfold mForO at q
    split at q
    · rw [(Len.loopO h _ _ _).1 _ _ _ q, List.length_set]
    · exact h1.1 _ _ _ q
  · intro e c fs e' q
    unfold mForO at q
    split at q
    · rw [(Len.loopO h _ _ _).2 _ _ _ _ q, List.length_set]
    · exact h1.2 _ _ _ _ q
section
variable {X : Cx} {W : WX} {io io' : List Nat} {x y : Str} {p pt pos : Pos} {body : List Stmt} {st : Stmt} {m mb m1 : M Fl}
theorem PS.or {t t' : TS} (h : PS X st t) (h' : PS X st t') : PS X st (fun D σ H => t D σ H ∨ t' D σ H) := ⟨fun pins s σ H D I q => q.elim (h.run pins s σ H D I) (h'.run pins s σ H D I)⟩
theorem pin.less {σ σ' : L2.St} (h : pin io' σ σ') (s : ∀ i ∈ io, i ∈ io') : pin io σ σ' := fun i hi => h i (s i hi)
theorem PostS.more {K : PySem.W.Frag} {mg : Str → Option Value} {σ : L2.St} {L : List Item} {D : Ends} {r : R Fl} (h : PostS K mg W io σ L D r) (s : ∀ i ∈ io, i ∈ io') : PostS K mg W io' σ L D r := by
  cases r with
  | ok f e' =>
    cases f with
    | nx => exact fun σ' H' h1 h2 g => h σ' H' h1 (h2.less s) g
    | bk => exact fun σ' H' h1 h2 g => h σ' H' h1 (h2.less s) g
    | ct => exact fun σ' H' h1 h2 g => h σ' H' h1 (h2.less s) g
    | rt o => exact fun v σ' H' h1 h2 g => h v σ' H' h1 (h2.less s) g
  | exc c fs e' => exact fun σ' h1 h2 => h σ' h1 (h2.less s)
  | no => exact h
/-- what keeps more slots keeps less -/
theorem SB.less {sts : List Stmt} (h : SB X W io' sts m) (s : ∀ i ∈ io, i ∈ io') : SB X W io sts m :=
  ⟨PSs.imp h.ps fun D σ H ⟨e, L, hl, g, q⟩ => ⟨e, L, hl, g, q.more s⟩, h.len⟩
theorem ss_forO (i t : Nat) (hp : PassesOwn (model X.prog X.w) X.A X.env X.xe) (hc : X.calm = true) (h1 : SS X W io (.For (.Name y pt) (.Name x p) body [] pos) m1) (hb : SB X W (i :: t :: io) body mb) (hN : X.N.Nodup) (hi : X.N[i]? = some x) (ht : X.N[t]? = some y)
    (hy : Loc X.env.scope y) (hit : i ≠ t) (hio : t ∉ io) (hv : Vis X.env.scope x := by first | exact Or.inl rfl | exact Or.inr (Or.inl rfl) | exact Or.inr (Or.inr rfl)) (hd : (x == ("__debug__" : Str)) = false := by decide) (hcd : (x == ("__classdict__" : Str)) = false := by decide)
    (hf : X.fn y = true ∨ X.env.scope.names.lookup y = some .local := by first | exact .inl rfl | exact .inr rfl | assumption) (hs : ∀ z, foldedSetIterable (.Name x p) X.env z = pure z := by intro _; rfl) :
    SS X W io (.For (.Name y pt) (.Name x p) body [] pos) (mForO i t mb m1) := by
  refine ⟨PS.imp (PS.or (ps_for hp hc (pi_list (pe_var (i := i) hi hv hd hcd)) (pg_name hN ht hy hf) hb.ps hs) h1.ps) fun D σ H h => ?_, hb.len.forO h1.len⟩
  obtain ⟨e, L, hl, g, h⟩ := h
  by_cases ho : ∃ os, e[i]? = some (some (.lst os))
  · left
    obtain ⟨os, ho⟩ := ho
    have h : PostS X.K X.mg W io σ L D (loopO i t mb os.length 0 os (e.set i none)) := by
      unfold mForO at h
      rw [ho] at h
      exact h
    obtain ⟨v, hσ⟩ := slot_val ho hl g
    have g0 := g.take ho hσ
    obtain ⟨q, vs, rfl, hn, hq, el, _⟩ := g0.openL
    refine ⟨.ref q, hσ, q, rfl, ⟨vs, .inl (.inl hq)⟩, ?_⟩
    have step0 : ∀ (k : Nat) (e1 : Sl) (σ1 : L2.St) (os' : List O) (H1 : Hp), G X.K [] H1 ((some (.lst os'), some (.ref q)) :: (e1.zip σ1 ++ L)) → ∃ vs', H1 q = some (.lst vs') ∧ os'.length = vs'.length := fun k e1 σ1 os' H1 g1 => by
      obtain ⟨q', vs', e', _, hq', el', _⟩ := g1.openL
      cases e'
      exact ⟨vs', hq', el'⟩
    refine ⟨fun k n σ1 H1 => ∃ (e1 : Sl) (os' : List O), n = os.length - k ∧ k ≤ os.length ∧ os'.length = os.length ∧ e1.length = σ1.length ∧ σ1.length = σ.length ∧ pin (i :: io) σ σ1 ∧
      G X.K [] H1 ((some (.lst os'), some (.ref q)) :: (e1.zip σ1 ++ L)) ∧ PostS X.K X.mg W io σ L D (loopO i t mb (os.length - k) k os' e1), ⟨_, e.set i none, os, rfl, Nat.zero_le _, rfl, by rw [List.length_set]; exact hl, rfl, pin.refl, g0, h⟩, ?_⟩
    rintro k n σ1 H1 ⟨e1, os', rfl, hk, eos, hl1, hl0, hp1, g1, h1'⟩
    obtain ⟨vs', hq', el'⟩ := step0 k e1 σ1 os' H1 g1
    by_cases hlt : k < os.length
    · right
      have hkv : k < vs'.length := by omega
      refine ⟨⟨vs', vs'[k], .inl (.inl hq'), List.getElem?_eq_getElem hkv⟩, ?_⟩
      have hr : os.length - k = (os.length - (k + 1)) + 1 := by omega
      rw [hr] at h1'
      unfold loopO at h1'
      have hok : os'[k]? = some os'[k] := List.getElem?_eq_getElem (by omega)
      rw [hok] at h1'
      refine ⟨fun σ' H' => ∃ (e1 : Sl) (os' : List O), os'.length = os.length ∧ e1.length = σ'.length ∧ σ'.length = σ.length ∧ pin (i :: io) σ σ' ∧
        G X.K [] H' ((some (.lst os'), some (.ref q)) :: (e1.zip σ' ++ L)) ∧ PostS X.K X.mg W io σ L D (loopO i t mb (os.length - (k + 1)) (k + 1) os' e1), fun σ' H' ⟨e', o', a1, a2, a3, a4, a5, a6⟩ => ⟨os.length - (k + 1), by omega, e', o', rfl, hlt, a1, a2, a3, a4, a5, a6⟩, ?_⟩
      rintro z H2 ⟨rfl, yz⟩
      have hz := yz vs' (.inl (.inl hq'))
      obtain ⟨q', vs2, eq', hn2, hq2, el2, gO⟩ := g1.openL
      cases eq'
      rw [hq'] at hq2
      cases hq2
      obtain ⟨C, gC, back⟩ := gO.itsOut hok hz
      have gH := back (L' := (some os'[k], some z) :: (e1.zip σ1 ++ L)) ((gC.perm List.perm_middle.symm |>.perm List.perm_middle |>.perm (show ((some os'[k], some z) :: (C ++ (e1.zip σ1 ++ L))).Perm (C ++ ((some os'[k], some z) :: (e1.zip σ1 ++ L))) from List.perm_middle.symm)).flat (d := .gl z) (v := z) fun Z => rfl)
      rw [set_id hz] at gH
      have gL := gH.closeL (by rw [List.length_set]; exact el2) hn2 hq'
      have htl : t < σ.length := by
        cases hlt' : decide (t < σ.length) with
        | true => exact of_decide_eq_true hlt'
        | false =>
          exfalso
          have hnot : ¬ t < σ.length := of_decide_eq_false hlt'
          cases qm : mb (e1.set t (some os'[k])) with
          | no => simp only [qm] at h1'; exact h1'
          | exc c fs e2 => simp only [qm] at h1'; exact h1'
          | ok fl e2 =>
            have le2 := hb.len.1 _ _ _ qm
            rw [List.length_set] at le2
            cases fl with
            | nx =>
              simp only [qm] at h1'
              rw [List.getElem?_eq_none (by omega)] at h1'
              exact h1'
            | rt o => simp only [qm] at h1'; exact h1'
            | bk => simp only [qm] at h1'; exact h1'
            | ct => simp only [qm] at h1'; exact h1'
      have gB : G X.K [] H2 ((e1.set t (some os'[k])).zip (σ1.set t (some z)) ++ ((some (.lst (os'.set k (.sh (.gl z)))), some (.ref q)) :: L)) :=
        G.setSlot (by omega) hl1 (gL.perm ((List.Perm.swap _ _ _).trans (List.Perm.cons _ List.perm_middle.symm)))
      show tS X.K X.mg W (i :: t :: io) mb _ (σ1.set t (some z)) H2
      refine ⟨e1.set t (some os'[k]), (some (.lst (os'.set k (.sh (.gl z)))), some (.ref q)) :: L, by rw [List.length_set, List.length_set]; exact hl1, gB, ?_⟩
      cases qm : mb (e1.set t (some os'[k])) with
      | no => simp only [qm] at h1'; exact h1'.elim
      | exc c fs e2 => simp only [qm] at h1'; exact h1'.elim
      | ok fl e2 =>
        have le2 := hb.len.1 _ _ _ qm
        rw [List.length_set] at le2
        cases fl with
        | rt o => simp only [qm] at h1'; exact h1'.elim
        | bk => simp only [qm] at h1'; exact h1'.elim
        | ct => simp only [qm] at h1'; exact h1'.elim
        | nx =>
          simp only [qm] at h1'
          cases qt : e2[t]? with
          | none => rw [qt] at h1'; exact h1'.elim
          | some oo =>
            rw [qt] at h1'
            cases oo with
            | none => exact h1'.elim
            | some o' =>
              intro σ' H' hl' hp' g'
              rw [List.length_set] at hl'
              have hσt : σ'[t]? = some (some z) := by
                rw [hp' t (List.mem_cons_of_mem _ List.mem_cons_self), List.getElem?_set_self (by omega)]
              have gT := (g'.take qt hσt)
              have gT2 : G X.K [] H' ((some (.lst (os'.set k (.sh (.gl z)))), some (.ref q)) :: ((some o', some z) :: ((e2.set t none).zip σ' ++ L))) := gT.perm ((List.Perm.cons _ List.perm_middle).trans (List.Perm.swap _ _ _))
              obtain ⟨q', vs3, eq', hn3, hq3, el3, gP⟩ := gT2.openL
              cases eq'
              have hkk : (os'.set k (.sh (.gl z)))[k]? = some (.sh (.gl z)) := List.getElem?_set_self (by omega)
              obtain ⟨u, hu⟩ := its_get el3 hkk
              obtain ⟨C3, gC3, back3⟩ := gP.itsOut hkk hu
              have eu : u = z := gC3.rep
              subst eu
              have gQ := back3 (L' := (e2.set t none).zip σ' ++ L) ((gC3.tail).perm List.perm_middle)
              rw [set_id hu, List.set_set] at gQ
              have gR := gQ.closeL (by rw [List.length_set] at el3 ⊢; exact el3) hn3 hq3
              refine ⟨e2.set t none, os'.set k o', by rw [List.length_set]; exact eos, by rw [List.length_set]; omega, by omega, ?_, gR, h1'⟩
              intro j hj
              have hjt : j ≠ t := fun ej => by
                subst ej
                rcases List.mem_cons.mp hj with ej | ej
                · exact hit ej.symm
                · exact hio ej
              have hj' : j ∈ i :: t :: io := by
                rcases List.mem_cons.mp hj with ej | ej
                · rw [ej]; exact List.mem_cons_self
                · exact List.mem_cons_of_mem _ (List.mem_cons_of_mem _ ej)
              rw [hp' j hj', List.getElem?_set_ne (fun z => hjt z.symm), hp1 j hj]
    · left
      have ek : k = os.length := by omega
      subst ek
      refine ⟨⟨vs', .inl (.inl hq'), by omega⟩, ?_⟩
      rw [Nat.sub_self] at h1'
      have h1' : ∀ σ' H', σ'.length = σ.length → pin io σ σ' → G X.K [] H' ((e1.set i (some (.lst os'))).zip σ' ++ L) → D.nx σ' H' := h1'
      have hi1 : σ1[i]? = some (some (.ref q)) := (hp1 i List.mem_cons_self).trans hσ
      refine h1' σ1 H1 hl0 (hp1.less fun j hj => List.mem_cons_of_mem _ hj) ?_
      have hil : i < σ1.length := (List.getElem?_eq_some_iff.mp hi1).1
      have := G.setSlot (i := i) (by omega) hl1 g1
      rwa [set_id hi1] at this
  · right
    refine ⟨e, L, hl, g, ?_⟩
    have e2 : mForO i t mb m1 e = m1 e := by
      unfold mForO
      split
      · rename_i os q
        exact absurd ⟨os, q⟩ ho
      · rfl
    rw [← e2]
    exact h
end
end Ow

set_option Elab.async false
set_option linter.all false
set_option maxRecDepth 100000
set_option maxHeartbeats 1000000
/-! Ow18: the stream's begin; the law's own def. -/
namespace Ow
open PySem PySem.Spec PyProof.Rows L2
theorem takes_lam {X : Cx} {A : Around} {outer : List Env} {s : Shared} {H : Hp} {E : XK} {scope : Scope} {f c' : Addr} : Takes (LamX.lamCx X A outer s H E scope f c') (WE E) := takes_of rfl rfl rfl rfl
def startO (ns : List Int) : O := .lst [.lst (ns.map fun i => .sh (.int i)), .sh (.int 0), .sh (.int 0), .sh (.int 43)]
def spStart (K : PySem.W.Frag) (ns : List Int) : Sp := fun vs H Q _ => ∃ (a : Addr) (L : List Item), vs = [.ref a] ∧ SqL K H a (ns.map V.int) ∧ ns.length ≤ sizeLine ∧ G K [] H L ∧ ∀ v H', G K [] H' ((some (startO ns), some v) :: L) → Q v H'
section
variable {P : Program} {w : World} {K : PySem.W.Frag} {mg : Str → Option Value} {base : Heap}
theorem ints_items {H : Hp} {L : List Item} (g : G K [] H L) : ∀ ns : List Int, G K [] H (its (ns.map fun i => O.sh (.int i)) (ns.map V.int) ++ L)
  | [] => g
  | n :: ns => (ints_items g ns).flat fun Z => rfl
theorem ok_start {ns : List Int} {f : Addr} {fd : FuncData} {x qual s : Str} {params : Arguments} {scope : Scope} {p1 p2 p3 p4 p5 p6 p7 p8 : Pos} {j1 j2 j3 : Nat}
    (F : FunD K x qual params [.Return (some (.List [.Call (.Name "list" p1) [.Name s p2] [] p3, .Constant (.int 0) j1 p4, .Constant (.int 0) j2 p5, .Constant (.int 43) j3 p6] p7)) p8] scope [] [] f fd)
    (S : FnScope [s] [s] scope) (hg : scope.names.lookup ("list" : Str) = some .globalImplicit) (hm : mg "list" = none) (hd : (s == ("__debug__" : Str)) = false := by decide) (hcd : (s == ("__classdict__" : Str)) = false := by decide) : FnOk P w K mg base (L2.CX P w) 1 f fd [s] (spStart K ns) := by
  refine F.ok S (fun vs H Q E h => ?_) (fun cdv A outer s' H vs Q E hr h => ?_)
  · obtain ⟨a, L, rfl, _⟩ := h
    rfl
  · have v0 : Vis scope s := vis_par S List.mem_cons_self
    have pl : PE (cxB P w K mg base [s] qual scope f cdv A outer s' H E) (.Call (.Name "list" p1) [.Name s p2] [] p3) _ := pe_callTy call_list_of hg hm (by decide +kernel) (pa_cons (pe_var (i := 0) rfl v0 hd hcd) pa_nil)
    refine ⟨_, pss_one (ps_ret (pe_lst (pa_cons pl (pa_cons pe_int (pa_cons pe_int (pa_cons pe_int pa_nil)))))), ?_⟩
    obtain ⟨a, L, rfl, hs, hl, g, q⟩ := h
    refine ⟨.ref a, rfl, a, _, rfl, .inl hs, fun l nl => ?_⟩
    have g1 := (ints_items g ns).newL (by simp) (by rw [List.length_map]; exact hl) nl
    refine ⟨by show 4 ≤ sizeLine; decide, fun q' nq => q _ _ ?_⟩
    have g2 : G K [] (upd H l (.lst (ns.map V.int))) (its [.lst (ns.map fun i => O.sh (.int i)), .sh (.int 0), .sh (.int 0), .sh (.int 43)] [.ref l, .int 0, .int 0, .int 43] ++ L) := by
      have a1 := ((g1.flat (d := .int 43) (v := .int 43) fun Z => rfl).flat (d := .int 0) (v := .int 0) fun Z => rfl).flat (d := .int 0) (v := .int 0) fun Z => rfl
      exact a1.perm (by
        show ((some (O.sh (.int 0)), some (V.int 0)) :: (some (O.sh (.int 0)), some (V.int 0)) :: (some (O.sh (.int 43)), some (V.int 43)) :: (some (.lst (ns.map fun i => O.sh (.int i))), some (.ref l)) :: L).Perm ((some (.lst (ns.map fun i => O.sh (.int i))), some (.ref l)) :: (some (O.sh (.int 0)), some (V.int 0)) :: (some (O.sh (.int 0)), some (V.int 0)) :: (some (O.sh (.int 43)), some (V.int 43)) :: L)
        exact (List.Perm.cons _ ((List.Perm.cons _ (List.Perm.swap _ _ _)).trans (List.Perm.swap _ _ _))).trans (List.Perm.swap _ _ _))
    exact g2.newL rfl (by show 4 ≤ sizeLine; decide) nq
/-! ### a slot that is no name's -/
theorem Inv.ghost {X : Cx} {pins : List (Addr × Obj)} {σ : L2.St} {H : Hp} {s : Shared} {gi : Nat} {y : Option V} (I : Inv X pins σ H s) (h : ∀ x, X.N[gi]? = some x → ¬ Vis X.env.scope x) : Inv X pins (σ.set gi y) H s := by
  obtain ⟨m, h1, h2⟩ := I.loc
  refine ⟨I.ok, I.os, I.bare, I.base, ⟨m, h1, fun i x v e1 e2 e3 => ?_⟩, I.cell, I.free, I.freeC, I.pin, I.hok, by rw [List.length_set]; exact I.len⟩
  by_cases hi : i = gi
  · subst hi
    exact absurd e3 (h x e1)
  · rw [List.getElem?_set_ne (fun z => hi z.symm)] at e2
    exact h2 i x v e1 e2 e3
theorem PSs.ghost {X : Cx} {sts : List Stmt} {t : TS} {gi : Nat} {y : Option V} (h : PSs X sts t) (hv : ∀ x, X.N[gi]? = some x → ¬ Vis X.env.scope x) : PSs X sts (fun D σ H => t D (σ.set gi y) H) :=
  ⟨fun pins s σ H D I q => h.run pins s (σ.set gi y) H D (Inv.ghost I hv) q⟩
theorem G.nones {H : Hp} {L : List Item} : ∀ {σ : L2.St}, G K [] H L → G K [] H ((List.replicate σ.length (none : Option O)).zip σ ++ L)
  | [], g => g
  | v :: σ, g => by
    rw [List.length_cons, List.replicate_succ, List.zip_cons_cons]
    exact (G.nones g).noval
/-- the slots behind the law's first statement -/
def lawE (n gi : Nat) (q : Str) (ns : List Int) : Sl := ((List.replicate n none).set 1 (some (startO ns))).set gi (some (.tab q))
def spLaw (K : PySem.W.Frag) : Sp := fun vs H Q _ => ∃ (a : Addr) (ns : List Int), vs = [.ref a] ∧ ns.length ≤ 63 ∧ SqL K H a (ns.map V.int) ∧ H (tabK K) = some (.tbl #[]) ∧ ∀ H', Q (.bl true) H'
theorem ok_law {f fS : Addr} {fd fdS : FuncData} {params : Arguments} {scope : Scope} {N : List Str} {rest : List Stmt} {p1 p2 p3 p4 p5 : Pos} {k gi : Nat} {q : Str} {m : M Fl}
    (F : FunD K "law" "law" params (.Assign [.Name "stream" p1] (.Call (.Name "_law_start" p2) [.Name "script" p3] [] p4) p5 :: rest) scope [] [] f fd) (S : FnScope N ["script"] scope) (h1N : N[1]? = some ("stream" : Str)) (hloc : Loc scope ("stream" : Str))
    (hgi : gi < N.length) (hg1 : 1 < gi) (hgv : ∀ x, N[gi]? = some x → ¬ Vis scope x) (hgs : scope.names.lookup ("_law_start" : Str) = some .globalImplicit) (hmS : mg "_law_start" = some (.ref fS)) (hkS : PySem.W.keepIn K (.ref fS) = true) (hbS : Binds K fdS ["script"] [])
    (FS : ∀ ns, FnOk P w K mg base (L2.CX P w) 1 fS fdS ["script"] (spStart K ns)) (hk : 1 ≤ k)
    (hsw : ∀ (cdv : Value) (A : Around) (outer : List Env) (s : Shared) (H : Hp) (E : XK), swapsWith (.Call (.Name "_law_start" p2) [.Name "script" p3] [] p4) (some (.Name "stream" p1)) p5.line (cxB P w K mg base N "law" scope f cdv A outer s H E).env = pure false)
    (hf0 : f = He.fAd K ("law", none))
    (hb : ∀ (A : Around) (outer : List Env) (s : Shared) (H : Hp) (E : XK), Room k (A.deeper (envOfC "law" scope s.heap.objs.size f (.ref (He.cT K ("law", none)).1))) → SB (cxB P w K mg base N "law" scope f (.ref (He.cT K ("law", none)).1) A outer s H E) (WE E) [] rest m)
    (hm : ∀ ns : List Int, ns.length ≤ 63 → ∃ e', m (lawE N.length gi q ns) = .ok (.rt (.sh (.bl true))) e') : FnOk P w K mg base (L2.CX P w) (k + 1) f fd ["script"] (spLaw K) := by
  obtain ⟨oc, od, dV, kV, doc, pm, an, cdv, ct, osl, rfl, lk, hcd, _, _⟩ := F.ex
  obtain ⟨cc, rfl⟩ := He.codeIn_ref hcd
  have ec : cc = (He.cT K ("law", none)).1 := (He.codeOf_eq (p := ("law", none)) (by rw [← hf0]; exact lk) rfl).symm
  subst ec
  refine fn_of lk hcd S (fun vs H Q E h => ?_) (fun A outer s H vs Q E hr h => ?_)
  · obtain ⟨a, ns, rfl, _⟩ := h
    rfl
  · obtain ⟨a, ns, rfl, hl, hs, hT, q'⟩ := h
    have v0 : Vis scope "script" := vis_par S List.mem_cons_self
    have B := hb A outer s H E hr
    have h0N : N[0]? = some ("script" : Str) := by
      have := S.pre
      cases N with
      | nil => simp at this
      | cons n N => simp at this; simp [this]
    have hf : (cxB P w K mg base N "law" scope f (.ref (He.cT K ("law", none)).1) A outer s H E).fn "stream" = true ∨ scope.names.lookup ("stream" : Str) = some .local := by
      first | exact .inl rfl | exact .inr rfl
    have pc : PE (cxB P w K mg base N "law" scope f (.ref (He.cT K ("law", none)).1) A outer s H E) (.Call (.Name "_law_start" p2) [.Name "script" p3] [] p4) _ :=
      pe_callS (E := fun σ => L2.WE (WE E) σ) (FS ns) (hr.mono hk) hgs hmS hkS hbS (fun σ => passAt takes_body σ) (pa_cons (pe_var (i := 0) h0N v0) pa_nil)
    refine ⟨_, pss_cons (ps_set S.nd h1N hloc pc (hsw _ A outer s H E) hf) (PSs.ghost (gi := gi) (y := some .non) B.ps hgv), ?_⟩
    have lst : (L2.start N [V.ref a]).length = N.length := by unfold L2.start; simp; omega
    have s0 : (L2.start N [V.ref a])[0]? = some (some (V.ref a)) := rfl
    have gT : G K [] H [(some (.tab q), some .non)] := by
      refine ⟨[tabK K], ⟨[tabK K], [], ⟨rfl, rfl, #[], hT, True.intro, fun pos cv hc => ?_⟩, rfl, rfl⟩, by simp⟩
      have z : codeAmong pos [] = some cv := hc
      simp [codeAmong] at z
    refine ⟨.ref a, s0, a, _, rfl, hs, by have := hl; have : (63 : Nat) ≤ sizeLine := by decide
                                          omega, gT, fun v H1 g1 => ?_⟩
    show tS K mg (WE E) [] m _ (((L2.start N [V.ref a]).set 1 (some v)).set gi (some .non)) H1
    obtain ⟨e', he'⟩ := hm ns hl
    refine ⟨lawE N.length gi q ns, [], ?_, ?_, ?_⟩
    · unfold lawE; simp [lst]
    · rw [List.append_nil]
      have g2 : G K [] H1 ((List.replicate (L2.start N [V.ref a]).length (none : Option O)).zip (L2.start N [V.ref a]) ++ [(some (startO ns), some v), (some (.tab q), some .non)]) := G.nones g1
      rw [lst] at g2
      have g3 := G.setSlot (i := 1) (e := List.replicate N.length (none : Option O)) (by simp; omega) (by simp [lst]) (g2.perm List.perm_middle)
      have g4 := G.setSlot (i := gi) (L := []) (e := (List.replicate N.length (none : Option O)).set 1 (some (startO ns))) (σ := (L2.start N [V.ref a]).set 1 (some v)) (x' := some (.tab q)) (y' := some .non) (by rw [List.length_set, List.length_replicate]; exact hgi) (by rw [List.length_set, List.length_set, List.length_replicate, lst])
        (g3.perm (by rw [List.append_nil]; exact List.perm_append_comm))
      rw [List.append_nil] at g4
      exact g4
    · rw [he']
      intro v' σ' H' _ _ g'
      have ev : v' = .bl true := g'.rep
      subst ev
      exact q' H'
end
end Ow

set_option Elab.async false
set_option linter.all false
set_option maxRecDepth 100000
set_option maxHeartbeats 1000000
/-! Ow19: isinstance of a name that stays; a part handed over; constants of the module. -/
namespace Ow
open PySem PySem.Spec PyProof.Rows L2
theorem u65 {k : Nat} {A : Around} (r : Room k A) : A.units + 65 < cLine := by
  have := r.un
  omega
/-- the module's name x is this constant -/
def Gv (K : PySem.W.Frag) (mg : Str → Option Value) (x : Str) (d : D) : Prop := ∃ (u : Value) (v : V), mg x = some u ∧ RelV v u ∧ ∀ H Z, RepD K H Z d v
section
variable {X : Cx} {W : WX} {a b : Expr} {ma mb : M O} {pos p p' : Pos} {x y : Str} {d : D}
theorem se_gv (h : Gv X.K X.mg x d) (hg : Gl X x) (hd : (x == ("__debug__" : Str)) = false := by decide) : SE X W (.Name x pos) (M.ret (.sh d)) := by
  obtain ⟨u, v, h1, h2, h3⟩ := h
  exact se_glob hg h1 h2 h3 hd
/-- isinstance(x, ..), x a name: what it holds stays as it is -/
def mIsiNm (i : Nat) (mb : M O) : M O := slotM i fun _ => mb.bind fun t => slotM i fun o => ofOpt (isiF [o.er, t.er])
theorem se_isiNm (i : Nat) (hg : Gl X "isinstance") (hm : X.mg "isinstance" = none) (hb : SE X W b mb) (hN : X.N[i]? = some y := by rfl) (hv : Vis X.env.scope y := by first | exact Or.inl rfl | exact Or.inr (Or.inl rfl) | exact Or.inr (Or.inr rfl)) (hd : (y == ("__debug__" : Str)) = false := by decide) (hcd : (y == ("__classdict__" : Str)) = false := by decide)
    (nb : starEach [b] X.env = (false, eval b X.env) :: starEach [] X.env := by rfl) (he : starEach [.Name y p', b] X.env = (false, eval (.Name y p') X.env) :: starEach [b] X.env := by rfl) (hpl : (backTo pos (starEach [b] X.env)).any (·.1) = false := by rfl) :
    SE X W (.Call (.Name "isinstance" p) [.Name y p', b] [] pos) (mIsiNm i mb) := by
  refine ⟨PE.imp (pe_callB (CallR.or call_isi (CallR.or call_isiT call_isiK)) hg hm (by decide +kernel) (pa_cons (pe_var hN hv hd hcd) (sa_cons hb sa_nil nb).pa he) (by decide) (by decide) he hpl) fun σ H Q h => ?_, Len.slot fun _ => hb.len.bind fun _ => Len.slot fun _ => Len.opt⟩
  obtain ⟨e, L, hl, g, h⟩ := h
  obtain ⟨o0, ho0, h⟩ := Post.slot h
  obtain ⟨v, hv⟩ := slot_val ho0 hl g
  refine ⟨v, hv, e, L, hl, g, ?_⟩
  have h1 := h.bind
  unfold mCons M.bind
  cases q : mb e with
  | no => rw [q] at h1; exact h1.elim
  | exc c fs e1 => rw [q] at h1; exact h1
  | ok t e1 =>
    rw [q] at h1
    obtain ⟨_, h2⟩ := (show _ ∧ _ from h1)
    obtain ⟨o, ho, h2⟩ := Post.slot h2
    refine fun (vs : List V) (H1 : Hp) (el : [t].length = vs.length) g1 => ?_
    match vs, el, g1 with
    | [w], _, g1 =>
      have l1 := (hb.len.1 _ _ _ q).trans hl
      have g2 : G X.K [] H1 ((some t, some w) :: (e1.zip σ ++ L)) := g1
      have g3 : G X.K [] H1 (e1.zip σ ++ ((some (.sh t.er), some w) :: L)) := g2.er.perm List.perm_middle.symm
      -- the name's value, as shared data, for the look alone
      cases hq : isiF [o.er, t.er] with
      | none => rw [hq] at h2; exact h2.elim
      | some o' =>
        rw [hq] at h2
        have rd : RepDs X.K H1 [] [o.er, t.er] [v, w] := ⟨v, [w], rfl, (g3.take ho hv).er.rep, w, [], rfl, g2.er.rep, rfl⟩
        obtain ⟨B, b1, b3, b2⟩ := (g2.tail).aside
        have g4 := G.pinned (ds := [o.er, t.er]) (vs := [v, w]) rd b1 b3
        refine isiF_ok [o.er, t.er] o' [v, w] H1 [(some (.pin B), some .non)] Q hq rfl g4 fun u H2 g5 => ?_
        have hB : Holds B H2 := G.unpin (L := [(some o', some u)]) (g5.perm (List.Perm.swap _ _ _))
        have hf : ∃ k, o' = .sh (.bl k) := by
          unfold isiF at hq
          split at hq
          · obtain ⟨a, _, h⟩ := Option.bind_eq_some_iff.mp hq
            obtain ⟨bs, _, h⟩ := Option.map_eq_some_iff.mp h
            exact ⟨_, h.symm⟩
          · obtain ⟨a, _, h⟩ := Option.bind_eq_some_iff.mp hq
            obtain ⟨bs, _, h⟩ := Option.map_eq_some_iff.mp h
            exact ⟨_, h.symm⟩
          · cases hq
        obtain ⟨k, rfl⟩ := hf
        exact h2 u H2 ((b2 H2 hB).flat fun Z => g5.rep)
/-- x[i][j], taken out of x for good: x a name with a list of tuples -/
def O.part2 (o : O) (c1 c2 : Nat) : Option O := match o with
  | .lst os => (match os[c1]? with
    | some (.tup ks) => ks[c2]?
    | _ => none)
  | _ => none
theorem part2_some {o x : O} {c1 c2 : Nat} (h : o.part2 c1 c2 = some x) : ∃ os ks, o = .lst os ∧ os[c1]? = some (.tup ks) ∧ ks[c2]? = some x := by
  unfold O.part2 at h
  split at h
  · rename_i os
    split at h
    · rename_i ks hk
      exact ⟨os, ks, rfl, hk, h⟩
    · cases h
  · cases h
def mTake (i c1 c2 : Nat) : M O := slotM i fun o => match o.part2 c1 c2 with
  | some z => fun e => .ok z (e.set i none)
  | none => M.no
theorem se_take (i c1 c2 : Nat) {j1 j2 : Nat} {p1 p2 p3 : Pos} (hN : X.N[i]? = some x := by rfl) (hv : Vis X.env.scope x := by first | exact Or.inl rfl | exact Or.inr (Or.inl rfl) | exact Or.inr (Or.inr rfl)) (hd : (x == ("__debug__" : Str)) = false := by decide) (hcd : (x == ("__classdict__" : Str)) = false := by decide) :
    SE X W (.Subscript (.Subscript (.Name x p) (.Constant (.int (c1 : Int)) j1 p1) p2) (.Constant (.int (c2 : Int)) j2 p3) pos) (mTake i c1 c2) := by
  refine ⟨PE.imp (pe_ix ix_seq (pe_ix ix_seq (pe_var hN hv hd hcd) pe_int fun _ _ => rfl) pe_int fun _ _ => rfl) fun σ H Q h => ?_, Len.slot fun _ => by split <;> first | exact Len.set | exact Len.no⟩
  obtain ⟨e, L, hl, g, h⟩ := h
  obtain ⟨o, ho, h⟩ := Post.slot h
  obtain ⟨v, hv⟩ := slot_val ho hl g
  cases hk : o.part2 c1 c2 with
  | none => rw [hk] at h; exact h.elim
  | some z =>
    rw [hk] at h
    obtain ⟨os, ks, rfl, h1, h2⟩ := part2_some hk
    obtain ⟨q, vs, rfl, hn, hq, el, g1⟩ := (g.take ho hv).openL
    obtain ⟨w, hw⟩ := its_get el h1
    have lw := (List.getElem?_eq_some_iff.mp hw).1
    obtain ⟨C, g2, _⟩ := g1.itsOut h1 hw
    obtain ⟨t, ws, rfl, hT, el2, g3⟩ := g2.openT
    obtain ⟨u, hu⟩ := its_get el2 h2
    have lu := (List.getElem?_eq_some_iff.mp hu).1
    obtain ⟨C2, g4, _⟩ := g3.itsOut h2 hu
    refine ⟨.ref q, hv, .inl ⟨q, vs, (c1 : Int), .ref t, rfl, rfl, .inl (.inl hq), atI_of (ixN_nat lw) hw, ?_⟩⟩
    refine .inr (.inl ⟨t, ws, (c2 : Int), u, rfl, rfl, hT, atI_of (ixN_nat lu) hu, h u H ?_⟩)
    have g5 : G X.K [q] H ((some z, some u) :: ((e.set i none).zip σ ++ L)) := by
      refine G.right (L := C2 ++ C) (g4.perm ?_)
      rw [List.append_assoc]
      refine List.perm_middle.symm.trans (List.Perm.append_left _ ?_)
      exact List.perm_middle.symm
    obtain ⟨F, hr, nd⟩ := g5
    rw [List.cons_append, List.nodup_cons] at nd
    exact ⟨F, hr.set fun b hb => List.mem_cons_of_mem _ hb, nd.2⟩
end
end Ow

set_option Elab.async false
set_option linter.all false
set_option maxRecDepth 100000
set_option maxHeartbeats 1000000
/-! Ow20: facts of a head as the engine wants them. -/
namespace Ow
open PySem PySem.Spec PyProof.Rows L2
/-- an own exception class over ValueError -/
def oexB (K : PySem.W.Frag) (C : Addr) : Bool := (match K.lookup C with
  | some ⟨.type "type", _, .cls cd, sl⟩ => (match cd.mro, sl.toList with
    | .ref C' :: bm, [_, _, _, _, some (.builtin n), _] => C' == C && (n == "ValueError.__new__" && (!cd.hasDel && (cd.hasDict && PySem.HandSPX.refsVE bm)))
    | _, _ => false)
  | _ => false) && (He.eqO (PySem.W.findIn K (.ref C) "__setattr__") (some (some (.builtin "object.__setattr__"))) && (decide (PySem.W.subIn K (.ref C) (.type "BaseException") = some true) && (decide (PySem.W.typeIn K (.ref C) = some (.type "type")) && PySem.W.keepIn K (.ref C))))
theorem oexB_ok {K : PySem.W.Frag} {C : Addr} (h : oexB K C = true) : OexC K C := by
  unfold oexB at h
  obtain ⟨h1, h⟩ := He.ba h
  obtain ⟨h2, h⟩ := He.ba h
  obtain ⟨h3, h⟩ := He.ba h
  obtain ⟨h4, h5⟩ := He.ba h
  refine ⟨?_, He.eqO_ok h2, of_decide_eq_true h3, of_decide_eq_true h4, h5⟩
  split at h1
  · rename_i dd cd sl ho
    split at h1
    · rename_i C' bm k0 k1 k2 k3 n k5 hm hs
      simp only [Bool.and_eq_true, beq_iff_eq, Bool.not_eq_true'] at h1
      obtain ⟨rfl, rfl, hdel, hdict, ht⟩ := h1
      obtain ⟨nm, bs, mro, ns, qn, hd, sn, sub, ab, col, del⟩ := cd
      dsimp only at hm hdel hdict
      subst hm hdel hdict
      have hsl : sl = #[k0, k1, k2, k3, some (.builtin "ValueError.__new__"), k5] := by
        obtain ⟨l⟩ := sl
        simp only at hs
        rw [hs]
      subst hsl
      exact ⟨nm, qn, ns, bs, bm, sn, sub, ab, col, dd, k0, k1, k2, k3, k5, ho, ht⟩
    · cases h1
  · cases h1
/-- the module's dict x has just these, texts to ints -/
def kTabB (K : PySem.W.Frag) (x : Str) (kvs : List (Str × Int)) : Bool := decide (kTab K (He.ga K x) = some kvs)
theorem gv_str {K : PySem.W.Frag} {mg : Str → Option Value} {x z : Str} (h : ∃ t, mg x = some (.str z t)) : Gv K mg x (.str z) := by
  obtain ⟨t, h⟩ := h
  exact ⟨_, .str z, h, ⟨t, rfl⟩, fun _ _ => rfl⟩
theorem gv_strs {K : PySem.W.Frag} {mg : Str → Option Value} {x : Str} {zs : List Str} (hm : mg x = some (.ref (He.ga K x))) (hl : zs.length ≤ sizeLine) (h : He.tupB K x (zs.map He.Dv.str) = true) : Gv K mg x (.tup (zs.map D.str)) := by
  refine ⟨_, .ref (He.ga K x), hm, rfl, fun H Z => ?_⟩
  have hk := He.tupB_ok h (fun _ => none)
  rw [List.map_map] at hk
  have hk : SqT K (fun _ => none) (He.ga K x) (zs.map V.str) := hk
  refine ⟨He.ga K x, zs.map V.str, rfl, by rw [List.length_map]; exact hl, ?_, ?_⟩
  · rcases hk with (z | ⟨o, z⟩) | z
    · cases z
    · cases z
    · exact .inr z
  · have aux : ∀ zs : List Str, RepDs K H Z (zs.map D.str) (zs.map V.str) := by
      intro zs
      induction zs with
      | nil => rfl
      | cons z zs ih => exact ⟨_, _, rfl, rfl, ih⟩
    exact aux zs
end Ow

set_option Elab.async false
set_option linter.all false
set_option maxRecDepth 100000
set_option maxHeartbeats 1000000
namespace L80
open PySem PySem.Spec PyProof.Rows L2 Ow
def smallS : Str := "abcdefghijklmnopqrstuvwxyz"
def numsD : List D := [.str ("0" : Str), .str ("1" : Str), .str ("2" : Str), .str ("3" : Str), .str ("4" : Str), .str ("5" : Str)]
def tab_SIZES : List (Str × Int) := [(("hear" : Str), 3), (("tell" : Str), 2), (("fresh" : Str), 1)]
def lamQ : Str := (("law" : Str) ++ (".<locals>." : Str)) ++ ("<lambda>" : Str)
def clas : List Cl3 := [("BadText", "line", "text"), ("BadDeed", "index", "deed")]
structure Cs where
  is_number : Fn
  is_letter : Fn
  is_deed : Fn
  plain_deed : Fn
  deeds_text : Fn
  deed_of : Fn
  lines_read : Fn
  deeds_fault : Fn
  read_deeds : Fn
  _law_mbent : Fn
  _law_mtext : Fn
  _law_below : Fn
  _law_pick : Fn
  _law_mixed : Fn
  _law_same : Fn
  _law_loose : Fn
  _law_spoilt : Fn
  _law_is_once : Fn
  _law_apart : Fn
  _law_mread : Fn
  _law_mform : Fn
/-! is_number -/
abbrev N_is_number : List Str := ["thing", "low", "high"]
def m_is_number (c : Cs) : M Fl := mRet (mAndV (mCB isiF (mCons (mName 0) (mCons (M.ret (.sh (tyD .int))) (M.ret [])))) (mAndV (mNotV (mCB isiF (mCons (mName 0) (mCons (M.ret (.sh (tyD .bool))) (M.ret []))))) (mChain leI leI (mName 1) (mName 0) (mName 2))))
def b_is_number (c : Cs) : Fn := bodyFn 3 3 [] (m_is_number c)
/-! is_letter -/
abbrev N_is_letter : List Str := ["thing"]
def m_is_letter (c : Cs) : M Fl := mRet (mAndV (mCB isiF (mCons (mName 0) (mCons (M.ret (.sh (tyD .str))) (M.ret [])))) (mAndV (mBin eqF (mLenNm 0) (M.ret (.sh (.int 1)))) (mBin (inF false) (mName 0) (M.ret (.sh (.str smallS))))))
def b_is_letter (c : Cs) : Fn := bodyFn 1 1 [] (m_is_letter c)
/-! is_deed -/
abbrev N_is_deed : List Str := ["thing"]
def m_is_deed (c : Cs) : M Fl := mSeq (mIf (mOr (mNotB (mTru (mCB isiF (mCons (mName 0) (mCons (mTup (mCons (M.ret (.sh (tyD .list))) (mCons (M.ret (.sh (tyD .tuple))) (M.ret [])))) (M.ret [])))))) (mOr (mNotB (mNmTru 0)) (mNotB (mTru (mCB isiF (mCons (mBin ixF (mName 0) (M.ret (.sh (.int 0)))) (mCons (M.ret (.sh (tyD .str))) (M.ret [])))))))) (mRet (M.ret (.sh (.bl false)))) (M.ret .nx)) (mRet (mAndV (mUn (inTab tab_SIZES) (mBin ixF (mName 0) (M.ret (.sh (.int 0))))) (mBin eqF (mLenNm 0) (mUn (ixTab tab_SIZES) (mBin ixF (mName 0) (M.ret (.sh (.int 0))))))))
def b_is_deed (c : Cs) : Fn := bodyFn 1 1 [] (m_is_deed c)
/-! plain_deed -/
abbrev N_plain_deed : List Str := ["thing", "good"]
def m_plain_deed (c : Cs) : M Fl := mSeq (mIf (mNotB (mTru (mCall (fun os => if os.length = 1 then c.is_deed os else .no) (mConsV (mName 0) (M.ret []))))) (mRet (M.ret (.sh .non))) (M.ret .nx)) (mSeq (mAsg (M.ret (.sh (.bl true))) (gSet 1 true)) (mSeq (mIf (mTst (mBin eqF (mBin ixF (mName 0) (M.ret (.sh (.int 0)))) (M.ret (.sh (.str ("hear" : Str)))))) (mAsg (mAndV (mCall (fun os => if os.length = 1 then c.is_letter os else .no) (mConsV (mBin ixF (mName 0) (M.ret (.sh (.int 1)))) (M.ret []))) (mCall (fun os => if os.length = 3 then c.is_number os else .no) (mConsV (mBin ixF (mName 0) (M.ret (.sh (.int 2)))) (mConsV (M.ret (.sh (.int 0))) (mConsV (M.ret (.sh (.int 3))) (M.ret [])))))) (gSet 1 true)) (M.ret .nx)) (mSeq (mIf (mTst (mBin eqF (mBin ixF (mName 0) (M.ret (.sh (.int 0)))) (M.ret (.sh (.str ("tell" : Str)))))) (mAsg (mCall (fun os => if os.length = 3 then c.is_number os else .no) (mConsV (mBin ixF (mName 0) (M.ret (.sh (.int 1)))) (mConsV (M.ret (.sh (.int 0))) (mConsV (M.ret (.sh (.int 5))) (M.ret []))))) (gSet 1 true)) (M.ret .nx)) (mRet (mIf (mNmTru 1) (mCB (c1 tupF) (mCons (mName 0) (M.ret []))) (M.ret (.sh .non)))))))
def b_plain_deed (c : Cs) : Fn := bodyFn 1 2 [] (m_plain_deed c)
/-! deeds_text -/
abbrev N_deeds_text : List Str := ["deeds", "lines", "index", "thing", "deed", "word"]
def m_deeds_text (c : Cs) : M Fl := mSeq (mIf (mNotB (mTru (mCB isiF (mCons (mName 0) (mCons (mTup (mCons (M.ret (.sh (tyD .list))) (mCons (M.ret (.sh (tyD .tuple))) (M.ret [])))) (M.ret [])))))) (mRaise ("BadDeed" : Str) ("index" : Str) (M.ret (.sh (.int 0)))) (M.ret .nx)) (mSeq (mAsg (mLst (M.ret [])) (gSet 1 false)) (mSeq (M.bind (mEn1 (mName 0)) fun ds => mFor (gTupF [(2, true), (3, true)]) (mSeq (mAsg (mCall (fun os => if os.length = 1 then c.plain_deed os else .no) (mConsV (mName 3) (M.ret []))) (gSet 4 true)) (mSeq (mIf (mTst (mUn isNF (mName 4))) (mRaise ("BadDeed" : Str) ("index" : Str) (mName 2)) (M.ret .nx)) (mExpr (mAppend 1 (mBin addF (mStr1 joinF (M.ret (.sh (.str (" " : Str)))) (mComp [5] true (mWalk (mName 4)) (gSet 5 true) (M.ret true) (mCB (c1 strF) (mCons (mName 5) (M.ret []))))) (M.ret (.sh (.str ("\n" : Str))))))))) ds) (mRet (mStr1 joinF (M.ret (.sh (.str ("" : Str)))) (mName 1)))))
def b_deeds_text (c : Cs) : Fn := bodyFn 1 6 [] (m_deeds_text c)
/-! deed_of -/
abbrev N_deed_of : List Str := ["line", "word"]
def m_deed_of (c : Cs) : M Fl := mRet (mCall (fun os => if os.length = 1 then c.plain_deed os else .no) (mConsV (mComp [1] true (mWalk (mStr1 splitF (mName 0) (M.ret (.sh (.str (" " : Str)))))) (gSet 1 true) (M.ret true) (mIf (mTst (mBin (inF false) (mName 1) (M.ret (.sh (.tup numsD))))) (mCB (c1 intF) (mCons (mName 1) (M.ret []))) (mName 1))) (M.ret [])))
def b_deed_of (c : Cs) : Fn := bodyFn 1 2 [] (m_deed_of c)
/-! lines_read -/
abbrev N_lines_read : List Str := ["text", "found", "lines", "number", "line", "deed"]
def m_lines_read (c : Cs) : M Fl := mSeq (mAsg (mLst (M.ret [])) (gSet 1 false)) (mSeq (mIf (mNotB (mTru (mCB isiF (mCons (mName 0) (mCons (M.ret (.sh (tyD .str))) (M.ret [])))))) (mRet (mTup (mCons (mMove 1) (mCons (M.ret (.sh (.int 0))) (M.ret []))))) (M.ret .nx)) (mSeq (mAsg (mStr1 splitF (mName 0) (M.ret (.sh (.str ("\n" : Str))))) (gSet 2 true)) (mSeq (M.bind (mEn2 (mSl (mName 2) (M.ret none) (mPart (mUn mNeg (M.ret (.sh (.int 1)))))) (M.ret (.sh (.int 1)))) fun ds => mFor (gTupF [(3, true), (4, true)]) (mSeq (mAsg (mCall (fun os => if os.length = 1 then c.deed_of os else .no) (mConsV (mName 4) (M.ret []))) (gSet 5 true)) (mSeq (mIf (mTst (mUn isNF (mName 5))) (mRet (mTup (mCons (mMove 1) (mCons (mName 3) (M.ret []))))) (M.ret .nx)) (mExpr (mAppend 1 (mName 5))))) ds) (mRet (mTup (mCons (mMove 1) (mCons (mIf (mTst (mBin eqF (mBin ixF (mName 2) (mUn mNeg (M.ret (.sh (.int 1))))) (M.ret (.sh (.str ("" : Str)))))) (M.ret (.sh .non)) (mLenNm 2)) (M.ret []))))))))
def b_lines_read (c : Cs) : Fn := bodyFn 1 6 [] (m_lines_read c)
/-! deeds_fault -/
abbrev N_deeds_fault : List Str := ["text"]
def m_deeds_fault (c : Cs) : M Fl := mRet (mBin ixF (mCall (fun os => if os.length = 1 then c.lines_read os else .no) (mConsV (mName 0) (M.ret []))) (M.ret (.sh (.int 1))))
def b_deeds_fault (c : Cs) : Fn := bodyFn 1 1 [] (m_deeds_fault c)
/-! read_deeds -/
abbrev N_read_deeds : List Str := ["text", "found", "number"]
def m_read_deeds (c : Cs) : M Fl := mSeq (mAsg (mCall (fun os => if os.length = 1 then c.lines_read os else .no) (mConsV (mName 0) (M.ret []))) (gTupF [(1, false), (2, true)])) (mSeq (mIf (mTst (mUn notNF (mName 2))) (mRaise ("BadText" : Str) ("line" : Str) (mName 2)) (M.ret .nx)) (mRet (mMove 1)))
def b_read_deeds (c : Cs) : Fn := bodyFn 1 3 [] (m_read_deeds c)
/-! _law_mbent -/
abbrev N__law_mbent : List Str := ["stream", "lines", "more", "at", "kind", "words", "place", "bent", "line"]
def m__law_mbent (c : Cs) : M Fl := mSeq (mPar 3 4 true true (mCons (mCall (fun os => if os.length = 2 then c._law_below os else .no) (slotM 0 fun _ => mConsL 0 (mConsV (mLenNm 1) (M.ret [])))) (mCons (mCall (fun os => if os.length = 2 then c._law_below os else .no) (slotM 0 fun _ => mConsL 0 (mConsV (M.ret (.sh (.int 9))) (M.ret [])))) (M.ret [])))) (mSeq (mAsg (mStr1 splitF (mBin ixF (mName 1) (mName 3)) (M.ret (.sh (.str (" " : Str))))) (gSet 5 true)) (mSeq (mAsg (mCall (fun os => if os.length = 2 then c._law_below os else .no) (slotM 0 fun _ => mConsL 0 (mConsV (mLenNm 5) (M.ret [])))) (gSet 6 true)) (mSeq (mIf (mTst (mBin eqF (mName 4) (M.ret (.sh (.int 0))))) (mAsg (mBin addF (mSl (mName 5) (M.ret none) (mPart (mName 6))) (mSl (mName 5) (mPart (mBin addF (mName 6) (M.ret (.sh (.int 1))))) (M.ret none))) (gSet 5 true)) (M.ret .nx)) (mSeq (mIf (mTst (mBin (inF false) (mName 4) (mTup (mCons (M.ret (.sh (.int 1))) (mCons (M.ret (.sh (.int 8))) (M.ret [])))))) (mAsg (mBin addF (mBin addF (mSl (mName 5) (M.ret none) (mPart (mName 6))) (mLst (mCons (mCall (fun os => if os.length = 2 then c._law_pick os else .no) (slotM 0 fun _ => mConsL 0 (mConsV (mBin addF (mName 2) (mName 5)) (M.ret [])))) (M.ret [])))) (mSl (mName 5) (mPart (mBin addF (mName 6) (mCB (c1 intF) (mCons (mBin eqF (mName 4) (M.ret (.sh (.int 8)))) (M.ret []))))) (M.ret none))) (gSet 5 true)) (M.ret .nx)) (mSeq (mAsg (mBin addF (mBin addF (mSl (mName 1) (M.ret none) (mPart (mName 3))) (mLst (mCons (mStr1 joinF (M.ret (.sh (.str (" " : Str)))) (mName 5)) (M.ret [])))) (mSl (mName 1) (mPart (mBin addF (mName 3) (M.ret (.sh (.int 1))))) (M.ret none))) (gSet 1 true)) (mSeq (mIf (mTst (mBin eqF (mName 4) (M.ret (.sh (.int 2))))) (mAsg (mBin addF (mSl (mName 1) (M.ret none) (mPart (mName 3))) (mSl (mName 1) (mPart (mBin addF (mName 3) (M.ret (.sh (.int 1))))) (M.ret none))) (gSet 1 true)) (M.ret .nx)) (mSeq (mIf (mTst (mBin eqF (mName 4) (M.ret (.sh (.int 3))))) (mAsg (mBin addF (mSl (mName 1) (M.ret none) (mPart (mBin addF (mName 3) (M.ret (.sh (.int 1)))))) (mSl (mName 1) (mPart (mName 3)) (M.ret none))) (gSet 1 true)) (M.ret .nx)) (mSeq (mIf (mAnd (mTst (mBin eqF (mName 4) (M.ret (.sh (.int 4))))) (mTst (mBin gtI (mName 3) (M.ret (.sh (.int 0)))))) (mAsg (mBin addF (mBin addF (mSl (mName 1) (M.ret none) (mPart (mBin subI (mName 3) (M.ret (.sh (.int 1)))))) (mLst (mCons (mBin ixF (mName 1) (mName 3)) (mCons (mBin ixF (mName 1) (mBin subI (mName 3) (M.ret (.sh (.int 1))))) (M.ret []))))) (mSl (mName 1) (mPart (mBin addF (mName 3) (M.ret (.sh (.int 1))))) (M.ret none))) (gSet 1 true)) (M.ret .nx)) (mSeq (mIf (mTst (mBin eqF (mName 4) (M.ret (.sh (.int 5))))) (mAsg (mSl (mName 1) (M.ret none) (mPart (mName 3))) (gSet 1 true)) (M.ret .nx)) (mSeq (mAsg (mStr1 joinF (M.ret (.sh (.str ("" : Str)))) (mComp [8] true (mWalk (mName 1)) (gSet 8 true) (M.ret true) (mBin addF (mName 8) (M.ret (.sh (.str ("\n" : Str))))))) (gSet 7 true)) (mSeq (mIf (mTst (mBin eqF (mName 4) (M.ret (.sh (.int 6))))) (mSeq (mAsg (mCall (fun os => if os.length = 2 then c._law_below os else .no) (slotM 0 fun _ => mConsL 0 (mConsV (mBin addF (mLenNm 7) (M.ret (.sh (.int 1)))) (M.ret [])))) (gSet 6 true)) (mRet (mBin addF (mBin addF (mSl (mName 7) (M.ret none) (mPart (mName 6))) (mCall (fun os => if os.length = 2 then c._law_pick os else .no) (slotM 0 fun _ => mConsL 0 (mConsV (mCB (c1 listF) (mCons (M.ret (.sh (.str (" \nab01w-*\t" : Str)))) (M.ret []))) (M.ret []))))) (mSl (mName 7) (mPart (mBin addF (mName 6) (mCall (fun os => if os.length = 2 then c._law_below os else .no) (slotM 0 fun _ => mConsL 0 (mConsV (M.ret (.sh (.int 2))) (M.ret [])))))) (M.ret none))))) (M.ret .nx)) (mRet (mIf (mAnd (mTst (mBin eqF (mName 4) (M.ret (.sh (.int 7))))) (mTst (mBin neF (mName 7) (M.ret (.sh (.str ("" : Str))))))) (mSl (mName 7) (M.ret none) (mPart (mBin subI (mLenNm 7) (M.ret (.sh (.int 1)))))) (mName 7))))))))))))))
def b__law_mbent (c : Cs) : Fn := bodyFn 3 9 [0] (m__law_mbent c)
/-! _law_mtext -/
abbrev N__law_mtext : List Str := ["lines", "line"]
def m__law_mtext (c : Cs) : M Fl := mRet (mStr1 joinF (M.ret (.sh (.str ("" : Str)))) (mComp [1] true (mWalk (mName 0)) (gSet 1 true) (M.ret true) (mBin addF (mName 1) (M.ret (.sh (.str ("\n" : Str)))))))
def b__law_mtext (c : Cs) : Fn := bodyFn 1 2 [] (m__law_mtext c)
/-! _law_below -/
abbrev N__law_below : List Str := ["stream", "many", "cell", "digit", "mixed"]
def m__law_below (c : Cs) : M Fl := mSeq (mAsg (mBin addF (mKid 0 2) (M.ret (.sh (.int 1)))) (gPut 0 2 true)) (mSeq (mWhile (mAnd (mTst (mBin eqF (mKid 0 1) (M.ret (.sh (.int 0))))) (mNeNil 0 0)) (mSeq (mAsg (mKidPop 0 0) (gSet 2 true)) (mSeq (mAsg (mBin modI (mCB (c1 intF) (mCons (mBin addF (mBin addF (mBin mulF (mKid 0 3) (M.ret (.sh (.int 69031)))) (mName 2)) (M.ret (.sh (.int 13)))) (M.ret []))) (M.ret (.sh (.int 2147483647)))) (gPut 0 3 true)) (mAsg (mIf (mTst (mBin geI (mName 2) (mBin powI (M.ret (.sh (.int 10))) (M.ret (.sh (.int 18)))))) (mName 2) (M.ret (.sh (.int 0)))) (gPut 0 1 true)))) 64) (mSeq (mIf (mTst (mBin gtI (mKid 0 1) (M.ret (.sh (.int 0))))) (mSeq (mAsg (mBin modI (mCB (c1 intF) (mCons (mKid 0 1) (M.ret []))) (mName 1)) (gSet 3 true)) (mSeq (mAsg (mBin fdivI (mKid 0 1) (mName 1)) (gPut 0 1 true)) (mRet (mName 3)))) (M.ret .nx)) (mSeq (mAsg (mBin modI (mCB (c1 intF) (mCons (mBin powI (mBin addF (mBin addF (mKid 0 3) (mBin mulF (M.ret (.sh (.int 9049))) (mKid 0 2))) (M.ret (.sh (.int 130073)))) (M.ret (.sh (.int 5)))) (M.ret []))) (M.ret (.sh (.int 2147483629)))) (gSet 4 true)) (mRet (mBin modI (mBin modI (mCB (c1 intF) (mCons (mBin powI (mBin addF (mBin addF (mBin mulF (mName 4) (M.ret (.sh (.int 44089)))) (mBin mulF (M.ret (.sh (.int 60077))) (mKid 0 2))) (M.ret (.sh (.int 47)))) (M.ret (.sh (.int 3)))) (M.ret []))) (M.ret (.sh (.int 1000000007)))) (mName 1))))))
def b__law_below (c : Cs) : Fn := bodyFn 2 5 [0] (m__law_below c)
/-! _law_pick -/
abbrev N__law_pick : List Str := ["stream", "some"]
def m__law_pick (c : Cs) : M Fl := mRet (mBin ixF (mName 1) (mCall (fun os => if os.length = 2 then c._law_below os else .no) (slotM 0 fun _ => mConsL 0 (mConsV (mLenNm 1) (M.ret [])))))
def b__law_pick (c : Cs) : Fn := bodyFn 2 2 [0] (m__law_pick c)
/-! _law_mixed -/
abbrev N__law_mixed : List Str := ["stream", "some", "left", "k"]
def m__law_mixed (c : Cs) : M Fl := mSeq (mAsg (mCB (c1 listF) (mCons (mName 1) (M.ret []))) (gSet 2 false)) (mRet (mComp [3] true (mRange1 (mLenNm 2)) (gSet 3 true) (M.ret true) (mPopAt 2 true (mCall (fun os => if os.length = 2 then c._law_below os else .no) (slotM 0 fun _ => mConsL 0 (mConsV (mLenNm 2) (M.ret [])))))))
def b__law_mixed (c : Cs) : Fn := bodyFn 2 4 [0] (m__law_mixed c)
/-! _law_same -/
abbrev N__law_same : List Str := ["found", "due", "x", "y"]
def m__law_same (c : Cs) : M Fl := mSeq (mIf (mTru (mCB isiF (mCons (mName 1) (mCons (mTup (mCons (M.ret (.sh (tyD .list))) (mCons (M.ret (.sh (tyD .tuple))) (M.ret [])))) (M.ret []))))) (mSeq (mIf (mOr (mTst (mBin neF (mCB isiF (mCons (mName 0) (mCons (M.ret (.sh (tyD .list))) (M.ret [])))) (mCB isiF (mCons (mName 1) (mCons (M.ret (.sh (tyD .list))) (M.ret [])))))) (mTst (mBin neF (mCB isiF (mCons (mName 0) (mCons (M.ret (.sh (tyD .tuple))) (M.ret [])))) (mCB isiF (mCons (mName 1) (mCons (M.ret (.sh (tyD .tuple))) (M.ret []))))))) (mRet (M.ret (.sh (.bl false)))) (M.ret .nx)) (mRet (mAndV (mBin eqF (mLenNm 0) (mLenNm 1)) (mCB (c1 allF) (mCons (mComp [2, 3] true (mZip (mName 0) (mName 1)) (gTupF [(2, true), (3, true)]) (M.ret true) (mCall (fun os => if os.length = 2 then c._law_same os else .no) (mConsV (mName 2) (mConsV (mName 3) (M.ret []))))) (M.ret [])))))) (M.ret .nx)) (mSeq (mIf (mTru (mCB isiF (mCons (mName 1) (mCons (M.ret (.sh (tyD .dict))) (M.ret []))))) (M.no) (M.ret .nx)) (mSeq (mIf (mTru (mCB isiF (mCons (mName 1) (mCons (M.ret (.sh (tyD .int))) (M.ret []))))) (mRet (mAndV (mCB isiF (mCons (mName 0) (mCons (M.ret (.sh (tyD .int))) (M.ret [])))) (mAndV (mBin eqF (mCB isiF (mCons (mName 0) (mCons (M.ret (.sh (tyD .bool))) (M.ret [])))) (mCB isiF (mCons (mName 1) (mCons (M.ret (.sh (tyD .bool))) (M.ret []))))) (mBin eqF (mName 0) (mName 1))))) (M.ret .nx)) (mSeq (mIf (mTst (mUn isNF (mName 1))) (mRet (mUn isNF (mName 0))) (M.ret .nx)) (mSeq (mIf (mTru (mCB isiF (mCons (mName 1) (mCons (M.ret (.sh (tyD .str))) (M.ret []))))) (mRet (mAndV (mCB isiF (mCons (mName 0) (mCons (M.ret (.sh (tyD .str))) (M.ret [])))) (mBin eqF (mName 0) (mName 1)))) (M.ret .nx)) (mRet (mAndV (mNotV (mCB isiF (mCons (mName 0) (mCons (mTup (mCons (M.ret (.sh (tyD .int))) (mCons (M.ret (.sh (tyD .str))) (mCons (M.ret (.sh (tyD .list))) (mCons (M.ret (.sh (tyD .tuple))) (mCons (M.ret (.sh (tyD .dict))) (M.ret []))))))) (M.ret []))))) (mBin eqF (mName 0) (mName 1))))))))
def b__law_same (c : Cs) : Fn := bodyFn 2 4 [] (m__law_same c)
/-! _law_loose -/
abbrev N__law_loose : List Str := ["stream", "thing", "key", "found", "part"]
def m__law_loose (c : Cs) : M Fl := mSeq (mIf (mTru (mCB isiF (mCons (mName 1) (mCons (M.ret (.sh (tyD .dict))) (M.ret []))))) (M.no) (M.ret .nx)) (mSeq (mIf (mNotB (mTru (mCB isiF (mCons (mName 1) (mCons (mTup (mCons (M.ret (.sh (tyD .list))) (mCons (M.ret (.sh (tyD .tuple))) (M.ret [])))) (M.ret [])))))) (mRet (mName 1)) (M.ret .nx)) (mSeq (mAsg (mComp [4] true (mWalk (mName 1)) (gSet 4 true) (M.ret true) (mCall (fun os => if os.length = 2 then c._law_loose os else .no) (slotM 0 fun _ => mConsL 0 (mConsV (mName 4) (M.ret []))))) (gSet 3 true)) (mRet (mIf (mTst (mBin eqF (mCall (fun os => if os.length = 2 then c._law_below os else .no) (slotM 0 fun _ => mConsL 0 (mConsV (M.ret (.sh (.int 2))) (M.ret [])))) (M.ret (.sh (.int 0))))) (mName 3) (mCB (c1 tupF) (mCons (mName 3) (M.ret [])))))))
def b__law_loose (c : Cs) : Fn := bodyFn 2 5 [0] (m__law_loose c)
/-! _law_spoilt -/
abbrev N__law_spoilt : List Str := ["thing", "key", "part"]
def m__law_spoilt (c : Cs) : M Fl := mSeq (mIf (mTru (mIsiNm 0 (M.ret (.sh (tyD .dict))))) (M.no) (M.ret .nx)) (mSeq (mIf (mTru (mIsiNm 0 (mTup (mCons (M.ret (.sh (tyD .list))) (mCons (M.ret (.sh (tyD .tuple))) (M.ret [])))))) (mForO 0 2 (mExpr (mCall (fun os => if os.length = 1 then c._law_spoilt os else .no) (slotM 2 fun _ => mConsL 2 (M.ret [])))) (M.bind (mWalk (mName 0)) fun ds => mFor (gSet 2 false) (mExpr (mCall (fun os => if os.length = 1 then c._law_spoilt os else .no) (slotM 2 fun _ => mConsL 2 (M.ret [])))) ds)) (M.ret .nx)) (mIf (mTru (mIsiNm 0 (M.ret (.sh (tyD .list))))) (mExpr (mAppend 0 (M.ret (.sh (.str ("LATE" : Str)))))) (M.ret .nx)))
def b__law_spoilt (c : Cs) : Fn := bodyFn 1 3 [0] (m__law_spoilt c)
/-! _law_is_once -/
abbrev N__law_is_once : List Str := ["thing", "key", "many", "part"]
def m__law_is_once (c : Cs) : M Fl := mSeq (mIf (mTru (mCB isiF (mCons (mName 0) (mCons (M.ret (.sh (tyD .dict))) (M.ret []))))) (M.no) (M.ret .nx)) (mSeq (mIf (mTru (mCB isiF (mCons (mName 0) (mCons (mTup (mCons (M.ret (.sh (tyD .list))) (mCons (M.ret (.sh (tyD .tuple))) (M.ret [])))) (M.ret []))))) (mSeq (mAsg (mCB (c1 intF) (mCons (mCB isiF (mCons (mName 0) (mCons (M.ret (.sh (tyD .list))) (M.ret [])))) (M.ret []))) (gSet 2 true)) (mRet (mAndV (mBin eqF (mCount (mCB (c1 listF) (mCons (mName 0) (M.ret []))) (M.ret (.sh (.str ("LATE" : Str))))) (mName 2)) (mCB (c1 allF) (mCons (mComp [3] true (mWalk (mName 0)) (gSet 3 true) (M.ret true) (mCall (fun os => if os.length = 1 then c._law_is_once os else .no) (mConsV (mName 3) (M.ret [])))) (M.ret [])))))) (M.ret .nx)) (mRet (M.ret (.sh (.bl true)))))
def b__law_is_once (c : Cs) : Fn := bodyFn 1 4 [] (m__law_is_once c)
/-! _law_apart -/
abbrev N__law_apart : List Str := ["thing"]
def m__law_apart (c : Cs) : M Fl := mSeq (mExpr (mCall (fun os => if os.length = 1 then c._law_spoilt os else .no) (slotM 0 fun _ => mConsL 0 (M.ret [])))) (mRet (mCall (fun os => if os.length = 1 then c._law_is_once os else .no) (mConsV (mName 0) (M.ret []))))
def b__law_apart (c : Cs) : Fn := bodyFn 1 1 [] (m__law_apart c)
/-! _law_mread -/
abbrev N__law_mread : List Str := ["line", "words"]
def m__law_mread (c : Cs) : M Fl := mSeq (mAsg (mStr1 splitF (mName 0) (M.ret (.sh (.str (" " : Str))))) (gSet 1 true)) (mSeq (mIf (mTst (mBin eqF (mName 1) (mLst (mCons (M.ret (.sh (.str ("fresh" : Str)))) (M.ret []))))) (mRet (mTup (mCons (M.ret (.sh (.str ("fresh" : Str)))) (M.ret [])))) (M.ret .nx)) (mSeq (mIf (mAnd (mTst (mBin eqF (mBin ixF (mName 1) (M.ret (.sh (.int 0)))) (M.ret (.sh (.str ("tell" : Str)))))) (mAnd (mTst (mBin eqF (mLenNm 1) (M.ret (.sh (.int 2))))) (mAnd (mTst (mBin eqF (mCB (c1 lenF) (mCons (mBin ixF (mName 1) (M.ret (.sh (.int 1)))) (M.ret []))) (M.ret (.sh (.int 1))))) (mTst (mBin (inF false) (mBin ixF (mName 1) (M.ret (.sh (.int 1)))) (M.ret (.sh (.str ("012345" : Str))))))))) (mRet (mTup (mCons (M.ret (.sh (.str ("tell" : Str)))) (mCons (mCB (c1 intF) (mCons (mBin ixF (mName 1) (M.ret (.sh (.int 1)))) (M.ret []))) (M.ret []))))) (M.ret .nx)) (mSeq (mIf (mOr (mTst (mBin neF (mBin ixF (mName 1) (M.ret (.sh (.int 0)))) (M.ret (.sh (.str ("hear" : Str)))))) (mOr (mTst (mBin neF (mLenNm 1) (M.ret (.sh (.int 3))))) (mOr (mTst (mBin neF (mCB (c1 lenF) (mCons (mBin ixF (mName 1) (M.ret (.sh (.int 1)))) (M.ret []))) (M.ret (.sh (.int 1))))) (mTst (mBin (inF true) (mBin ixF (mName 1) (M.ret (.sh (.int 1)))) (M.ret (.sh (.str ("abcdefghijklmnopqrstuvwxyz" : Str))))))))) (mRet (M.ret (.sh .non))) (M.ret .nx)) (mRet (mIf (mAnd (mTst (mBin eqF (mCB (c1 lenF) (mCons (mBin ixF (mName 1) (M.ret (.sh (.int 2)))) (M.ret []))) (M.ret (.sh (.int 1))))) (mTst (mBin (inF false) (mBin ixF (mName 1) (M.ret (.sh (.int 2)))) (M.ret (.sh (.str ("0123" : Str))))))) (mTup (mCons (M.ret (.sh (.str ("hear" : Str)))) (mCons (mBin ixF (mName 1) (M.ret (.sh (.int 1)))) (mCons (mCB (c1 intF) (mCons (mBin ixF (mName 1) (M.ret (.sh (.int 2)))) (M.ret []))) (M.ret []))))) (M.ret (.sh .non)))))))
def b__law_mread (c : Cs) : Fn := bodyFn 1 2 [] (m__law_mread c)
/-! _law_mform -/
abbrev N__law_mform : List Str := ["stream", "letter"]
def m__law_mform (c : Cs) : M Fl := mSeq (mAsg (mCall (fun os => if os.length = 2 then c._law_pick os else .no) (slotM 0 fun _ => mConsL 0 (mConsV (mCB (c1 listF) (mCons (M.ret (.sh (.str ("abqz" : Str)))) (M.ret []))) (M.ret [])))) (gSet 1 true)) (mRet (mCall (fun os => if os.length = 2 then c._law_pick os else .no) (slotM 0 fun _ => mConsL 0 (mConsV (mLst (mCons (mTup (mCons (M.ret (.sh (.str ("hear" : Str)))) (mCons (mName 1) (mCons (mCall (fun os => if os.length = 2 then c._law_below os else .no) (slotM 0 fun _ => mConsL 0 (mConsV (M.ret (.sh (.int 4))) (M.ret [])))) (M.ret []))))) (mCons (mTup (mCons (M.ret (.sh (.str ("hear" : Str)))) (mCons (mName 1) (mCons (M.ret (.sh (.int 3))) (M.ret []))))) (mCons (mTup (mCons (M.ret (.sh (.str ("tell" : Str)))) (mCons (mCall (fun os => if os.length = 2 then c._law_below os else .no) (slotM 0 fun _ => mConsL 0 (mConsV (M.ret (.sh (.int 6))) (M.ret [])))) (M.ret [])))) (mCons (mTup (mCons (M.ret (.sh (.str ("fresh" : Str)))) (M.ret []))) (M.ret [])))))) (M.ret [])))))
def b__law_mform (c : Cs) : Fn := bodyFn 1 2 [0] (m__law_mform c)
/-! law -/
abbrev N_law : List Str := ["script", "stream", "turn", "deeds", "again", "lines", "word", "deed", "text", "told", "bent", "rows", "wrong", "at", "line", "due", "odd", "found", "<tab>"]
def m_law (c : Cs) : M Fl := mSeq (M.bind (mRange1 (M.ret (.sh (.int 4)))) fun ds => mFor (gSet 2 true) (mSeq (mAsg (mComp [4] true (mRange1 (mBin addF (M.ret (.sh (.int 1))) (mCall (fun os => if os.length = 2 then c._law_below os else .no) (slotM 1 fun _ => mConsL 1 (mConsV (M.ret (.sh (.int 9))) (M.ret [])))))) (gSet 4 true) (M.ret true) (mCall (fun os => if os.length = 1 then c._law_mform os else .no) (slotM 1 fun _ => mConsL 1 (M.ret [])))) (gSet 3 true)) (mSeq (mAsg (mComp [7] true (mWalk (mName 3)) (gSet 7 true) (M.ret true) (mStr1 joinF (M.ret (.sh (.str (" " : Str)))) (mComp [6] true (mWalk (mName 7)) (gSet 6 true) (M.ret true) (mCB (c1 strF) (mCons (mName 6) (M.ret [])))))) (gSet 5 true)) (mSeq (mAsg (mCall (fun os => if os.length = 1 then c._law_mtext os else .no) (mConsV (mName 5) (M.ret []))) (gSet 8 true)) (mSeq (mAsg (mLst (mCons (mWords 18 lamQ clas "told" (mCall (fun os => if os.length = 1 then c.deeds_text os else .no) (mConsV (mCall (fun os => if os.length = 2 then c._law_loose os else .no) (slotM 1 fun _ => mConsL 1 (mConsV (mName 3) (M.ret [])))) (M.ret [])))) (M.ret []))) (gSet 9 false)) (mSeq (mExpr (mAppend 9 (mWords 18 lamQ clas "told" (mCall (fun os => if os.length = 1 then c.read_deeds os else .no) (mConsV (mName 8) (M.ret [])))))) (mSeq (mIf (mOr (mNotB (mTru (mCallP (fun os => if os.length = 2 then c._law_same os else .no) (slotM 9 fun _ => mConsL 9 (mConsV (mLst (mCons (mTup (mCons (M.ret (.sh (.str ("told" : Str)))) (mCons (mName 8) (M.ret [])))) (mCons (mTup (mCons (M.ret (.sh (.str ("told" : Str)))) (mCons (mName 3) (M.ret [])))) (M.ret [])))) (M.ret [])))))) (mTst (mUn notNF (mCall (fun os => if os.length = 1 then c.deeds_fault os else .no) (mConsV (mName 8) (M.ret [])))))) (mRet (M.ret (.sh (.bl false)))) (M.ret .nx)) (mSeq (mIf (mOr (mNotB (mTru (mCall (fun os => if os.length = 1 then c._law_apart os else .no) (mConsW (mLst (mCons (mTake 9 1 1) (M.ret []))) (M.ret []))))) (mNotB (mTru (mCall (fun os => if os.length = 2 then c._law_same os else .no) (mConsV (mCall (fun os => if os.length = 1 then c.read_deeds os else .no) (mConsV (mName 8) (M.ret []))) (mConsV (mName 3) (M.ret []))))))) (mRet (M.ret (.sh (.bl false)))) (M.ret .nx)) (mSeq (M.bind (mRange1 (M.ret (.sh (.int 12)))) fun ds => mFor (gSet 4 true) (mSeq (mAsg (mCall (fun os => if os.length = 3 then c._law_mbent os else .no) (slotM 1 fun _ => mConsL 1 (mConsV (mName 5) (mConsV (mLst (mCons (M.ret (.sh (.str ("hear" : Str)))) (mCons (M.ret (.sh (.str ("tell" : Str)))) (mCons (M.ret (.sh (.str ("fresh" : Str)))) (mCons (M.ret (.sh (.str ("0" : Str)))) (mCons (M.ret (.sh (.str ("3" : Str)))) (mCons (M.ret (.sh (.str ("4" : Str)))) (mCons (M.ret (.sh (.str ("5" : Str)))) (mCons (M.ret (.sh (.str ("6" : Str)))) (mCons (M.ret (.sh (.str ("a" : Str)))) (mCons (M.ret (.sh (.str ("A" : Str)))) (mCons (M.ret (.sh (.str ("aa" : Str)))) (mCons (M.ret (.sh (.str ("" : Str)))) (mCons (M.ret (.sh (.str ("-1" : Str)))) (mCons (M.ret (.sh (.str ("01" : Str)))) (M.ret [])))))))))))))))) (M.ret []))))) (gSet 10 true)) (mSeq (mAsg (mStr1 splitF (mName 10) (M.ret (.sh (.str ("\n" : Str))))) (gSet 11 true)) (mSeq (mAsg (mComp [13, 14] true (mEn1 (mSl (mName 11) (M.ret none) (mPart (mUn mNeg (M.ret (.sh (.int 1))))))) (gTupF [(13, true), (14, true)]) (mTst (mUn isNF (mCall (fun os => if os.length = 1 then c._law_mread os else .no) (mConsV (mName 14) (M.ret []))))) (mBin addF (mName 13) (M.ret (.sh (.int 1))))) (gSet 12 true)) (mSeq (mAsg (mBin ixF (mBin addF (mBin addF (mName 12) (mIf (mTst (mBin neF (mBin ixF (mName 11) (mUn mNeg (M.ret (.sh (.int 1))))) (M.ret (.sh (.str ("" : Str)))))) (mLst (mCons (mLenNm 11) (M.ret []))) (mLst (M.ret [])))) (mLst (mCons (M.ret (.sh .non)) (M.ret [])))) (M.ret (.sh (.int 0)))) (gSet 15 true)) (mSeq (mIf (mNotB (mTru (mCall (fun os => if os.length = 2 then c._law_same os else .no) (mConsV (mCall (fun os => if os.length = 1 then c.deeds_fault os else .no) (mConsV (mName 10) (M.ret []))) (mConsV (mName 15) (M.ret [])))))) (mRet (M.ret (.sh (.bl false)))) (M.ret .nx)) (mSeq (mAsg (mWords 18 lamQ clas "told" (mCall (fun os => if os.length = 1 then c.read_deeds os else .no) (mConsV (mName 10) (M.ret [])))) (gSet 9 false)) (mIf (mNotB (mTru (mCallP (fun os => if os.length = 2 then c._law_same os else .no) (slotM 9 fun _ => mConsL 9 (mConsV (mIf (mTst (mUn notNF (mName 15))) (mTup (mCons (M.ret (.sh (.str ("text" : Str)))) (mCons (mName 15) (M.ret [])))) (mTup (mCons (M.ret (.sh (.str ("told" : Str)))) (mCons (mComp [14] true (mWalk (mSl (mName 11) (M.ret none) (mPart (mUn mNeg (M.ret (.sh (.int 1))))))) (gSet 14 true) (M.ret true) (mCall (fun os => if os.length = 1 then c._law_mread os else .no) (mConsV (mName 14) (M.ret [])))) (M.ret []))))) (M.ret [])))))) (mRet (M.ret (.sh (.bl false)))) (M.ret .nx)))))))) ds) (mSeq (M.bind (mWalk (mLst (mCons (M.ret (.sh .non)) (mCons (M.ret (.sh (.int 5))) (mCons (mTup (mCons (M.ret (.sh (.str ("stop" : Str)))) (M.ret []))) (mCons (mTup (mCons (M.ret (.sh (.str ("tell" : Str)))) (M.ret []))) (mCons (mTup (mCons (M.ret (.sh (.str ("tell" : Str)))) (mCons (M.ret (.sh (.int 6))) (M.ret [])))) (mCons (mTup (mCons (M.ret (.sh (.str ("tell" : Str)))) (mCons (M.ret (.sh (.bl true))) (M.ret [])))) (mCons (mTup (mCons (M.ret (.sh (.str ("hear" : Str)))) (mCons (M.ret (.sh (.str ("a" : Str)))) (mCons (M.ret (.sh (.int 4))) (M.ret []))))) (mCons (mTup (mCons (M.ret (.sh (.str ("hear" : Str)))) (mCons (M.ret (.sh (.str ("ab" : Str)))) (mCons (M.ret (.sh (.int 0))) (M.ret []))))) (mCons (mTup (mCons (M.ret (.sh (.str ("hear" : Str)))) (mCons (M.ret (.sh (.str ("a" : Str)))) (M.ret [])))) (mCons (mTup (mCons (M.ret (.sh (.str ("fresh" : Str)))) (mCons (M.ret (.sh (.int 0))) (M.ret [])))) (mCons (mTup (mCons (M.ret (.sh (.str ("hear" : Str)))) (mCons (M.ret (.sh (.str ("a\n" : Str)))) (mCons (M.ret (.sh (.int 0))) (M.ret []))))) (M.ret [])))))))))))))) fun ds => mFor (gSet 16 true) (mSeq (mAsg (mCall (fun os => if os.length = 2 then c._law_below os else .no) (slotM 1 fun _ => mConsL 1 (mConsV (mBin addF (mLenNm 3) (M.ret (.sh (.int 1)))) (M.ret [])))) (gSet 13 true)) (mIf (mNotB (mTru (mCall (fun os => if os.length = 2 then c._law_same os else .no) (mConsV (mWords 18 lamQ clas "told" (mCall (fun os => if os.length = 1 then c.deeds_text os else .no) (mConsV (mBin addF (mBin addF (mSl (mName 3) (M.ret none) (mPart (mName 13))) (mLst (mCons (mName 16) (M.ret [])))) (mSl (mName 3) (mPart (mName 13)) (M.ret none))) (M.ret [])))) (mConsV (mTup (mCons (M.ret (.sh (.str ("deed" : Str)))) (mCons (mName 13) (M.ret [])))) (M.ret [])))))) (mRet (M.ret (.sh (.bl false)))) (M.ret .nx))) ds) (M.bind (mWalk (mLst (mCons (M.ret (.sh .non)) (mCons (M.ret (.sh (.int 5))) (mCons (M.ret (.sh (.str ("ab" : Str)))) (mCons (M.ret (.sh (.dct [] []))) (M.ret []))))))) fun ds => mFor (gSet 16 true) (mSeq (mAsg (mLst (mCons (mWords 18 lamQ clas "told" (mCall (fun os => if os.length = 1 then c.deeds_text os else .no) (mConsV (mName 16) (M.ret [])))) (M.ret []))) (gSet 17 false)) (mSeq (mExpr (mAppend 17 (mWords 18 lamQ clas "told" (mCall (fun os => if os.length = 1 then c.read_deeds os else .no) (mConsV (mLst (mCons (mName 16) (M.ret []))) (M.ret [])))))) (mIf (mOr (mNotB (mTru (mCall (fun os => if os.length = 2 then c._law_same os else .no) (mConsV (mName 17) (mConsV (mLst (mCons (mTup (mCons (M.ret (.sh (.str ("deed" : Str)))) (mCons (M.ret (.sh (.int 0))) (M.ret [])))) (mCons (mTup (mCons (M.ret (.sh (.str ("text" : Str)))) (mCons (M.ret (.sh (.int 0))) (M.ret [])))) (M.ret [])))) (M.ret [])))))) (mNotB (mTru (mCall (fun os => if os.length = 2 then c._law_same os else .no) (mConsV (mCall (fun os => if os.length = 1 then c.deeds_fault os else .no) (mConsV (mLst (mCons (mName 16) (M.ret []))) (M.ret []))) (mConsV (M.ret (.sh (.int 0))) (M.ret []))))))) (mRet (M.ret (.sh (.bl false)))) (M.ret .nx)))) ds)))))))))) ds) (mSeq (mAsg (mLst (mCons (mWords 18 lamQ clas "told" (mCall (fun os => if os.length = 1 then c.deeds_text os else .no) (mConsV (mLst (M.ret [])) (M.ret [])))) (M.ret []))) (gSet 17 false)) (mSeq (mExpr (mAppend 17 (mWords 18 lamQ clas "told" (mCall (fun os => if os.length = 1 then c.read_deeds os else .no) (mConsV (M.ret (.sh (.str ("" : Str)))) (M.ret [])))))) (mRet (mCall (fun os => if os.length = 2 then c._law_same os else .no) (mConsV (mName 17) (mConsV (mLst (mCons (mTup (mCons (M.ret (.sh (.str ("told" : Str)))) (mCons (M.ret (.sh (.str ("" : Str)))) (M.ret [])))) (mCons (mTup (mCons (M.ret (.sh (.str ("told" : Str)))) (mCons (mLst (M.ret [])) (M.ret [])))) (M.ret [])))) (M.ret [])))))))
def csNo : Cs := { is_number := fun _ => .no, is_letter := fun _ => .no, is_deed := fun _ => .no, plain_deed := fun _ => .no, deeds_text := fun _ => .no, deed_of := fun _ => .no, lines_read := fun _ => .no, deeds_fault := fun _ => .no, read_deeds := fun _ => .no, _law_mbent := fun _ => .no, _law_mtext := fun _ => .no, _law_below := fun _ => .no, _law_pick := fun _ => .no, _law_mixed := fun _ => .no, _law_same := fun _ => .no, _law_loose := fun _ => .no, _law_spoilt := fun _ => .no, _law_is_once := fun _ => .no, _law_apart := fun _ => .no, _law_mread := fun _ => .no, _law_mform := fun _ => .no }
def csUp (c : Cs) : Cs := { is_number := b_is_number c, is_letter := b_is_letter c, is_deed := b_is_deed c, plain_deed := b_plain_deed c, deeds_text := b_deeds_text c, deed_of := b_deed_of c, lines_read := b_lines_read c, deeds_fault := b_deeds_fault c, read_deeds := b_read_deeds c, _law_mbent := b__law_mbent c, _law_mtext := b__law_mtext c, _law_below := b__law_below c, _law_pick := b__law_pick c, _law_mixed := b__law_mixed c, _law_same := b__law_same c, _law_loose := b__law_loose c, _law_spoilt := b__law_spoilt c, _law_is_once := b__law_is_once c, _law_apart := b__law_apart c, _law_mread := b__law_mread c, _law_mform := b__law_mform c }
def cs : Nat → Cs
  | 0 => csNo
  | n + 1 => csUp (cs n)
end L80

set_option Elab.async false
set_option linter.all false
set_option maxRecDepth 100000
set_option maxHeartbeats 2000000
namespace L80
open PySem PySem.Spec PyProof.Rows L2 Ow
theorem intF_int (i : Int) : intF (.int i) = some (.sh (.int i)) := rfl
theorem intF_bl (k : Bool) : intF (.bl k) = some (.sh (.int (if k then 1 else 0))) := rfl
def stO (ks : List Int) (a cnt k : Int) : O := .lst [.lst (ks.map fun i => .sh (.int i)), .sh (.int a), .sh (.int cnt), .sh (.int k)]
structure St (N : Int) (ks : List Int) (a cnt k : Int) : Prop where
  l : ks.length ≤ 63
  a0 : 0 ≤ a
  c0 : 0 ≤ cnt
  cN : cnt ≤ N
  k0 : 0 ≤ k
  kP : k < 2147483647
def Stm (N : Int) (o : O) : Prop := ∃ ks a cnt k, o = stO ks a cnt k ∧ St N ks a cnt k
theorem eqb_int (i : Int) : (D.int i).eqb = true := by simp [D.eqb, D.pure, D.py, SeqAt.shaped, PyData.canLay0, PyData.depth]
theorem eqb_bl (i : Bool) : (D.bl i).eqb = true := by simp [D.eqb, D.pure, D.py, SeqAt.shaped, PyData.canLay0, PyData.depth]
theorem eqv_int (i j : Int) : PyData.eqv (D.int i).py (D.int j).py = (i == j) := by simp [D.py, PyData.eqv]
theorem stO_ints (ks : List Int) : O.ers (ks.map fun i => O.sh (.int i)) = ks.map D.int := by
  rw [O.ers_map, List.map_map]; rfl
theorem eqb_ints : ∀ ks : List Int, (D.lst (ks.map D.int)).eqb = true := by
  intro ks
  have h1 : D.pures (ks.map D.int) = true := by
    induction ks with
    | nil => rfl
    | cons k ks ih => simp [D.pures, D.pure, ih]
  have h2 : PyData.canLayAll0 (D.pys (ks.map D.int)) = true ∧ PyData.depthAll (D.pys (ks.map D.int)) ≤ 2 := by
    clear h1
    induction ks with
    | nil => simp [D.pys, PyData.canLayAll0, PyData.depthAll]
    | cons k ks ih => simp [D.pys, D.py, PyData.canLayAll0, PyData.depthAll, PyData.canLay0, PyData.depth, ih.1]; omega
  have h3 : PyData.depth (.list (D.pys (ks.map D.int))) ≤ 64 := by
    simp only [PyData.depth]; omega
  simp only [D.eqb, D.pure, D.py, SeqAt.shaped, PyData.canLay0, h1, h2.1, Bool.true_and]
  exact decide_eq_true h3
/-! ### the stream -/
def loopT : M Bool := mAnd (mTst (mBin eqF (mKid 0 1) (M.ret (.sh (.int 0))))) (mNeNil 0 0)
def loopB : M Fl := mSeq (mAsg (mKidPop 0 0) (gSet 2 true)) (mSeq (mAsg (mBin modI (mCB (c1 intF) (mCons (mBin addF (mBin addF (mBin mulF (mKid 0 3) (M.ret (.sh (.int 69031)))) (mName 2)) (M.ret (.sh (.int 13)))) (M.ret []))) (M.ret (.sh (.int 2147483647)))) (gPut 0 3 true)) (mAsg (mIf (mTst (mBin geI (mName 2) (mBin powI (M.ret (.sh (.int 10))) (M.ret (.sh (.int 18)))))) (mName 2) (M.ret (.sh (.int 0)))) (gPut 0 1 true)))
theorem loopT_ok (ks : List Int) (a cnt k : Int) (x1 x2 x3 x4 : Option O) : loopT [some (stO ks a cnt k), x1, x2, x3, x4] = .ok (decide (a = 0) && !ks.isEmpty) [some (stO ks a cnt k), x1, x2, x3, x4] := by
  unfold loopT
  have em : (ks.map D.int).isEmpty = ks.isEmpty := by cases ks <;> rfl
  by_cases h : a = 0
  · subst h
    simp only [bodyFn, Ow.back, mSeq, mIf, M.bind, M.ret, M.no, slotM, mName, mMove, mKid, O.kid, mBin, ofOpt, ofOptB, ofG, mAsg, gM, gSet, gPut, frz, mRet, mExpr, mTst, mTru, mNotB, mAnd, mOr, mAndV, mOrV, mNotV, mNmTru, mLenNm, mCB, c1, mCons, mUn, mLst, mTup, mPart, mSl, O.er, O.ers, O.asB, addF, addI, subI, mulF, mulI, modI, fdivI, powI, ltI, leI, gtI, geI, ii0, iiF, eqF, neF, intF_int, intF_bl, D.asI, lenF, mNeNil, O.neNil, mKidPop, O.kidPop, isNF, notNF, D.isN, mNeg, mConsV, mConsL, mConsW, mCall, mCallK, takeA, putA, mCallP, mCallPK, peekA, List.map_cons, List.map_nil, List.cons_append, List.nil_append, List.replicate, List.getElem?_cons_zero, List.getElem?_cons_succ, List.getElem?_nil, List.set_cons_zero, List.set_cons_succ, List.set_nil, List.length_cons, List.length_nil, List.length_set, Option.map_some, Option.map_none, Option.bind_some, Option.bind_none, Nat.reduceAdd, Nat.reduceSub, Nat.reduceLT, Nat.reduceLeDiff, Nat.lt_add_one, if_true, if_false, reduceIte, Bool.false_eq_true, decide_true, decide_false, Bool.and_true, Bool.true_and, Bool.and_false, Bool.false_and, Bool.not_true, Bool.not_false, List.range_succ, List.range_zero, List.mem_cons, List.not_mem_nil, or_false, or_true, true_or, false_or, List.getD_cons_zero, List.getD_cons_succ, List.map_append, Nat.one_ne_zero, Nat.reduceEqDiff, reduceCtorEq, eq_self,stO, eqb_int, eqv_int, stO_ints, eqb_ints, beq_self_eq_true, em]
  · have hb : (a == 0) = false := by simp [h]
    have hd : decide (a = 0) = false := by simp [h]
    simp only [bodyFn, Ow.back, mSeq, mIf, M.bind, M.ret, M.no, slotM, mName, mMove, mKid, O.kid, mBin, ofOpt, ofOptB, ofG, mAsg, gM, gSet, gPut, frz, mRet, mExpr, mTst, mTru, mNotB, mAnd, mOr, mAndV, mOrV, mNotV, mNmTru, mLenNm, mCB, c1, mCons, mUn, mLst, mTup, mPart, mSl, O.er, O.ers, O.asB, addF, addI, subI, mulF, mulI, modI, fdivI, powI, ltI, leI, gtI, geI, ii0, iiF, eqF, neF, intF_int, intF_bl, D.asI, lenF, mNeNil, O.neNil, mKidPop, O.kidPop, isNF, notNF, D.isN, mNeg, mConsV, mConsL, mConsW, mCall, mCallK, takeA, putA, mCallP, mCallPK, peekA, List.map_cons, List.map_nil, List.cons_append, List.nil_append, List.replicate, List.getElem?_cons_zero, List.getElem?_cons_succ, List.getElem?_nil, List.set_cons_zero, List.set_cons_succ, List.set_nil, List.length_cons, List.length_nil, List.length_set, Option.map_some, Option.map_none, Option.bind_some, Option.bind_none, Nat.reduceAdd, Nat.reduceSub, Nat.reduceLT, Nat.reduceLeDiff, Nat.lt_add_one, if_true, if_false, reduceIte, Bool.false_eq_true, decide_true, decide_false, Bool.and_true, Bool.true_and, Bool.and_false, Bool.false_and, Bool.not_true, Bool.not_false, List.range_succ, List.range_zero, List.mem_cons, List.not_mem_nil, or_false, or_true, true_or, false_or, List.getD_cons_zero, List.getD_cons_succ, List.map_append, Nat.one_ne_zero, Nat.reduceEqDiff, reduceCtorEq, eq_self,stO, eqb_int, eqv_int, stO_ints, eqb_ints, hb, hd]
theorem pow18 : (10 : Int) ^ (18 : Int).toNat = 10 ^ 18 := rfl
theorem cond18 : (decide ((0 : Int) ≤ 18) && decide ((18 : Int) ≤ 1000000) && decide ((10 : Int).natAbs < 2 ^ 64)) = true := by decide
theorem modP : decide ((0 : Int) < 2147483647) = true := by decide
theorem loopB_ok (y : Int) (ks : List Int) (cnt k : Int) (h0 : 0 ≤ k) (h1 : k < 2147483647) (x1 x2 x3 x4 : Option O) : loopB [some (stO (y :: ks) 0 cnt k), x1, x2, x3, x4] = .ok .nx [some (stO ks (if 10 ^ 18 ≤ y then y else 0) cnt ((k * 69031 + y + 13) % 2147483647)), x1, some (.sh (.int y)), x3, x4] := by
  have e1 : ((decide (-(2 ^ 64) < k) && decide (k < 2 ^ 64)) || (decide (-(2 ^ 64) < (69031 : Int)) && decide ((69031 : Int) < 2 ^ 64))) = true := by
    rw [Bool.or_eq_true]
    right
    decide
  unfold loopB
  by_cases h : (10 ^ 18 : Int) ≤ y
  · have hd : decide ((10 ^ 18 : Int) ≤ y) = true := decide_eq_true h
    simp only [bodyFn, Ow.back, mSeq, mIf, M.bind, M.ret, M.no, slotM, mName, mMove, mKid, O.kid, mBin, ofOpt, ofOptB, ofG, mAsg, gM, gSet, gPut, frz, mRet, mExpr, mTst, mTru, mNotB, mAnd, mOr, mAndV, mOrV, mNotV, mNmTru, mLenNm, mCB, c1, mCons, mUn, mLst, mTup, mPart, mSl, O.er, O.ers, O.asB, addF, addI, subI, mulF, mulI, modI, fdivI, powI, ltI, leI, gtI, geI, ii0, iiF, eqF, neF, intF_int, intF_bl, D.asI, lenF, mNeNil, O.neNil, mKidPop, O.kidPop, isNF, notNF, D.isN, mNeg, mConsV, mConsL, mConsW, mCall, mCallK, takeA, putA, mCallP, mCallPK, peekA, List.map_cons, List.map_nil, List.cons_append, List.nil_append, List.replicate, List.getElem?_cons_zero, List.getElem?_cons_succ, List.getElem?_nil, List.set_cons_zero, List.set_cons_succ, List.set_nil, List.length_cons, List.length_nil, List.length_set, Option.map_some, Option.map_none, Option.bind_some, Option.bind_none, Nat.reduceAdd, Nat.reduceSub, Nat.reduceLT, Nat.reduceLeDiff, Nat.lt_add_one, if_true, if_false, reduceIte, Bool.false_eq_true, decide_true, decide_false, Bool.and_true, Bool.true_and, Bool.and_false, Bool.false_and, Bool.not_true, Bool.not_false, List.range_succ, List.range_zero, List.mem_cons, List.not_mem_nil, or_false, or_true, true_or, false_or, List.getD_cons_zero, List.getD_cons_succ, List.map_append, Nat.one_ne_zero, Nat.reduceEqDiff, reduceCtorEq, eq_self,stO, e1, modP, pow18, cond18, hd, if_pos h]
  · have hd : decide ((10 ^ 18 : Int) ≤ y) = false := decide_eq_false h
    simp only [bodyFn, Ow.back, mSeq, mIf, M.bind, M.ret, M.no, slotM, mName, mMove, mKid, O.kid, mBin, ofOpt, ofOptB, ofG, mAsg, gM, gSet, gPut, frz, mRet, mExpr, mTst, mTru, mNotB, mAnd, mOr, mAndV, mOrV, mNotV, mNmTru, mLenNm, mCB, c1, mCons, mUn, mLst, mTup, mPart, mSl, O.er, O.ers, O.asB, addF, addI, subI, mulF, mulI, modI, fdivI, powI, ltI, leI, gtI, geI, ii0, iiF, eqF, neF, intF_int, intF_bl, D.asI, lenF, mNeNil, O.neNil, mKidPop, O.kidPop, isNF, notNF, D.isN, mNeg, mConsV, mConsL, mConsW, mCall, mCallK, takeA, putA, mCallP, mCallPK, peekA, List.map_cons, List.map_nil, List.cons_append, List.nil_append, List.replicate, List.getElem?_cons_zero, List.getElem?_cons_succ, List.getElem?_nil, List.set_cons_zero, List.set_cons_succ, List.set_nil, List.length_cons, List.length_nil, List.length_set, Option.map_some, Option.map_none, Option.bind_some, Option.bind_none, Nat.reduceAdd, Nat.reduceSub, Nat.reduceLT, Nat.reduceLeDiff, Nat.lt_add_one, if_true, if_false, reduceIte, Bool.false_eq_true, decide_true, decide_false, Bool.and_true, Bool.true_and, Bool.and_false, Bool.false_and, Bool.not_true, Bool.not_false, List.range_succ, List.range_zero, List.mem_cons, List.not_mem_nil, or_false, or_true, true_or, false_or, List.getD_cons_zero, List.getD_cons_succ, List.map_append, Nat.one_ne_zero, Nat.reduceEqDiff, reduceCtorEq, eq_self,stO, e1, modP, pow18, cond18, hd, if_neg h]
theorem while_ok : ∀ (fuel : Nat) (ks : List Int) (a cnt k : Int) (x1 x2 x3 x4 : Option O), ks.length < fuel → 0 ≤ a → 0 ≤ k → k < 2147483647 → ∃ ks' a' k' x2', mWhile loopT loopB fuel [some (stO ks a cnt k), x1, x2, x3, x4] = .ok .nx [some (stO ks' a' cnt k'), x1, x2', x3, x4] ∧ ks'.length ≤ ks.length ∧ 0 ≤ a' ∧ 0 ≤ k' ∧ k' < 2147483647
  | 0, ks, a, cnt, k, x1, x2, x3, x4, hf, _, _, _ => absurd hf (by omega)
  | fuel + 1, ks, a, cnt, k, x1, x2, x3, x4, hf, ha, hk, hk2 => by
    unfold mWhile M.bind
    rw [loopT_ok]
    by_cases h : a = 0 ∧ ks ≠ []
    · obtain ⟨rfl, hne⟩ := h
      match ks, hne with
      | y :: ks, _ =>
        have ha' : (0 : Int) ≤ (if 10 ^ 18 ≤ y then y else 0) := by split <;> omega
        obtain ⟨ks', a', k', x2', e, l, p1, p2, p3⟩ := while_ok fuel ks (if 10 ^ 18 ≤ y then y else 0) cnt ((k * 69031 + y + 13) % 2147483647) x1 (some (.sh (.int y))) x3 x4 (by simp at hf; omega) ha' (Int.emod_nonneg _ (by decide)) (Int.emod_lt_of_pos _ (by decide))
        refine ⟨ks', a', k', x2', ?_, by simp; omega, p1, p2, p3⟩
        simp only [decide_true, List.isEmpty_cons, Bool.not_false, Bool.and_self, if_true]
        rw [loopB_ok _ _ _ _ hk hk2]
        exact e
    · have : (decide (a = 0) && !ks.isEmpty) = false := by
        by_cases h2 : a = 0
        · have : ks = [] := by
            apply Classical.byContradiction
            intro z
            exact h ⟨h2, z⟩
          simp [this]
        · simp [h2]
      rw [this]
      exact ⟨ks, a, k, x2, rfl, Nat.le_refl _, ha, hk, hk2⟩
theorem seq_nx {m1 m2 : M Fl} {e e1 : Sl} (h : m1 e = .ok .nx e1) : mSeq m1 m2 e = m2 e1 := by unfold mSeq M.bind; rw [h]
theorem seq_rt {m1 m2 : M Fl} {e e1 : Sl} {o : O} (h : m1 e = .ok (.rt o) e1) : mSeq m1 m2 e = .ok (.rt o) e1 := by unfold mSeq M.bind; rw [h]; rfl
theorem below_ok (c : Cs) {N : Int} {o : O} (h : Stm N o) (hN : N ≤ 1000000) {many : Int} (h1 : 1 ≤ many) (h2 : many < 1073741824) : ∃ r o', b__law_below c [o, .sh (.int many)] = .ok (.sh (.int r)) [some o', none] ∧ 0 ≤ r ∧ r < many ∧ Stm (N + 1) o' := by
  obtain ⟨ks, a, cnt, k, rfl, S⟩ := h
  obtain ⟨l, a0, c0, cN, k0, kP⟩ := S
  obtain ⟨ks', a', k', x2', ew, l', a0', k0', kP'⟩ := while_ok 64 ks a (cnt + 1) k (some (.sh (.int many))) none none none (by omega) a0 k0 kP
  have s1 : mAsg (mBin addF (mKid 0 2) (M.ret (.sh (.int 1)))) (gPut 0 2 true) [some (stO ks a cnt k), some (.sh (.int many)), none, none, none] = .ok .nx [some (stO ks a (cnt + 1) k), some (.sh (.int many)), none, none, none] := by simp only [bodyFn, Ow.back, mSeq, mIf, M.bind, M.ret, M.no, slotM, mName, mMove, mKid, O.kid, mBin, ofOpt, ofOptB, ofG, mAsg, gM, gSet, gPut, frz, mRet, mExpr, mTst, mTru, mNotB, mAnd, mOr, mAndV, mOrV, mNotV, mNmTru, mLenNm, mCB, c1, mCons, mUn, mLst, mTup, mPart, mSl, O.er, O.ers, O.asB, addF, addI, subI, mulF, mulI, modI, fdivI, powI, ltI, leI, gtI, geI, ii0, iiF, eqF, neF, intF_int, intF_bl, D.asI, lenF, mNeNil, O.neNil, mKidPop, O.kidPop, isNF, notNF, D.isN, mNeg, mConsV, mConsL, mConsW, mCall, mCallK, takeA, putA, mCallP, mCallPK, peekA, List.map_cons, List.map_nil, List.cons_append, List.nil_append, List.replicate, List.getElem?_cons_zero, List.getElem?_cons_succ, List.getElem?_nil, List.set_cons_zero, List.set_cons_succ, List.set_nil, List.length_cons, List.length_nil, List.length_set, Option.map_some, Option.map_none, Option.bind_some, Option.bind_none, Nat.reduceAdd, Nat.reduceSub, Nat.reduceLT, Nat.reduceLeDiff, Nat.lt_add_one, if_true, if_false, reduceIte, Bool.false_eq_true, decide_true, decide_false, Bool.and_true, Bool.true_and, Bool.and_false, Bool.false_and, Bool.not_true, Bool.not_false, List.range_succ, List.range_zero, List.mem_cons, List.not_mem_nil, or_false, or_true, true_or, false_or, List.getD_cons_zero, List.getD_cons_succ, List.map_append, Nat.one_ne_zero, Nat.reduceEqDiff, reduceCtorEq, eq_self,stO]
  have hm : decide (0 < many) = true := decide_eq_true (by omega)
  have hm2 : (decide (0 < many) && decide (many < 1073741824)) = true := by rw [hm, decide_eq_true h2]; rfl
  unfold b__law_below bodyFn
  have eb : m__law_below c ([stO ks a cnt k, .sh (.int many)].map some ++ List.replicate (5 - 2) none) = (mSeq (mWhile loopT loopB 64) _) [some (stO ks a (cnt + 1) k), some (.sh (.int many)), none, none, none] := seq_nx s1
  rw [eb, seq_nx ew]
  by_cases ha : 0 < a'
  · refine ⟨a' % many, stO ks' (a' / many) (cnt + 1) k', ?_, Int.emod_nonneg _ (by omega), Int.emod_lt_of_pos _ (by omega), ks', a' / many, cnt + 1, k', rfl, by omega, Int.ediv_nonneg a0' (by omega), by omega, by omega, k0', kP'⟩
    have hd : decide (0 < a') = true := decide_eq_true ha
    simp only [bodyFn, Ow.back, mSeq, mIf, M.bind, M.ret, M.no, slotM, mName, mMove, mKid, O.kid, mBin, ofOpt, ofOptB, ofG, mAsg, gM, gSet, gPut, frz, mRet, mExpr, mTst, mTru, mNotB, mAnd, mOr, mAndV, mOrV, mNotV, mNmTru, mLenNm, mCB, c1, mCons, mUn, mLst, mTup, mPart, mSl, O.er, O.ers, O.asB, addF, addI, subI, mulF, mulI, modI, fdivI, powI, ltI, leI, gtI, geI, ii0, iiF, eqF, neF, intF_int, intF_bl, D.asI, lenF, mNeNil, O.neNil, mKidPop, O.kidPop, isNF, notNF, D.isN, mNeg, mConsV, mConsL, mConsW, mCall, mCallK, takeA, putA, mCallP, mCallPK, peekA, List.map_cons, List.map_nil, List.cons_append, List.nil_append, List.replicate, List.getElem?_cons_zero, List.getElem?_cons_succ, List.getElem?_nil, List.set_cons_zero, List.set_cons_succ, List.set_nil, List.length_cons, List.length_nil, List.length_set, Option.map_some, Option.map_none, Option.bind_some, Option.bind_none, Nat.reduceAdd, Nat.reduceSub, Nat.reduceLT, Nat.reduceLeDiff, Nat.lt_add_one, if_true, if_false, reduceIte, Bool.false_eq_true, decide_true, decide_false, Bool.and_true, Bool.true_and, Bool.and_false, Bool.false_and, Bool.not_true, Bool.not_false, List.range_succ, List.range_zero, List.mem_cons, List.not_mem_nil, or_false, or_true, true_or, false_or, List.getD_cons_zero, List.getD_cons_succ, List.map_append, Nat.one_ne_zero, Nat.reduceEqDiff, reduceCtorEq, eq_self,stO, hd, hm, hm2, decide_eq_true h2]
  · have hd : decide (0 < a') = false := decide_eq_false ha
    have p1 : (decide ((0 : Int) ≤ 5) && decide ((5 : Int) ≤ 1000000) && decide ((k' + 9049 * (cnt + 1) + 130073).natAbs < 2 ^ 64)) = true := by
      rw [Bool.and_eq_true, Bool.and_eq_true]
      exact ⟨⟨by decide, by decide⟩, decide_eq_true (by omega)⟩
    have m1 : ((decide (-(2 ^ 64) < (9049 : Int)) && decide ((9049 : Int) < 2 ^ 64)) || (decide (-(2 ^ 64) < cnt + 1) && decide (cnt + 1 < 2 ^ 64))) = true := by
      rw [Bool.or_eq_true]; left; decide
    generalize hX : (k' + 9049 * (cnt + 1) + 130073) ^ (5 : Int).toNat % 2147483629 = X
    have x0 : 0 ≤ X := by rw [← hX]; exact Int.emod_nonneg _ (by decide)
    have xP : X < 2147483629 := by rw [← hX]; exact Int.emod_lt_of_pos _ (by decide)
    have m2 : ((decide (-(2 ^ 64) < X) && decide (X < 2 ^ 64)) || (decide (-(2 ^ 64) < (44089 : Int)) && decide ((44089 : Int) < 2 ^ 64))) = true := by
      rw [Bool.or_eq_true]; right; decide
    have m3 : ((decide (-(2 ^ 64) < (60077 : Int)) && decide ((60077 : Int) < 2 ^ 64)) || (decide (-(2 ^ 64) < cnt + 1) && decide (cnt + 1 < 2 ^ 64))) = true := by
      rw [Bool.or_eq_true]; left; decide
    have p2 : (decide ((0 : Int) ≤ 3) && decide ((3 : Int) ≤ 1000000) && decide ((X * 44089 + 60077 * (cnt + 1) + 47).natAbs < 2 ^ 64)) = true := by
      rw [Bool.and_eq_true, Bool.and_eq_true]
      exact ⟨⟨by decide, by decide⟩, decide_eq_true (by omega)⟩
    have q1 : decide ((0 : Int) < 2147483629) = true := by decide
    have q2 : decide ((0 : Int) < 1000000007) = true := by decide
    refine ⟨(X * 44089 + 60077 * (cnt + 1) + 47) ^ (3 : Int).toNat % 1000000007 % many, stO ks' a' (cnt + 1) k', ?_, Int.emod_nonneg _ (by omega), Int.emod_lt_of_pos _ (by omega), ks', a', cnt + 1, k', rfl, by omega, a0', by omega, by omega, k0', kP'⟩
    simp only [bodyFn, Ow.back, mSeq, mIf, M.bind, M.ret, M.no, slotM, mName, mMove, mKid, O.kid, mBin, ofOpt, ofOptB, ofG, mAsg, gM, gSet, gPut, frz, mRet, mExpr, mTst, mTru, mNotB, mAnd, mOr, mAndV, mOrV, mNotV, mNmTru, mLenNm, mCB, c1, mCons, mUn, mLst, mTup, mPart, mSl, O.er, O.ers, O.asB, addF, addI, subI, mulF, mulI, modI, fdivI, powI, ltI, leI, gtI, geI, ii0, iiF, eqF, neF, intF_int, intF_bl, D.asI, lenF, mNeNil, O.neNil, mKidPop, O.kidPop, isNF, notNF, D.isN, mNeg, mConsV, mConsL, mConsW, mCall, mCallK, takeA, putA, mCallP, mCallPK, peekA, List.map_cons, List.map_nil, List.cons_append, List.nil_append, List.replicate, List.getElem?_cons_zero, List.getElem?_cons_succ, List.getElem?_nil, List.set_cons_zero, List.set_cons_succ, List.set_nil, List.length_cons, List.length_nil, List.length_set, Option.map_some, Option.map_none, Option.bind_some, Option.bind_none, Nat.reduceAdd, Nat.reduceSub, Nat.reduceLT, Nat.reduceLeDiff, Nat.lt_add_one, if_true, if_false, reduceIte, Bool.false_eq_true, decide_true, decide_false, Bool.and_true, Bool.true_and, Bool.and_false, Bool.false_and, Bool.not_true, Bool.not_false, List.range_succ, List.range_zero, List.mem_cons, List.not_mem_nil, or_false, or_true, true_or, false_or, List.getD_cons_zero, List.getD_cons_succ, List.map_append, Nat.one_ne_zero, Nat.reduceEqDiff, reduceCtorEq, eq_self,stO, hd, hm, p1, m1, m2, m3, p2, q1, q2, hX]
/-! ### steps -/
theorem ret_ok {m : M O} {e e1 : Sl} {o : O} (h : m e = .ok o e1) : mRet m e = .ok (.rt o) e1 := by unfold mRet M.bind; rw [h]; rfl
theorem asg_ok {m : M O} {f : O → Sl → Option Sl} {e e1 e2 : Sl} {o : O} (h : m e = .ok o e1) (h2 : f o e1 = some e2) : mAsg m f e = .ok .nx e2 := by unfold mAsg M.bind gM; rw [h]; simp only [h2]
theorem if_t {α : Type} {t : M Bool} {a b : M α} {e e1 : Sl} (h : t e = .ok true e1) : mIf t a b e = a e1 := by unfold mIf M.bind; rw [h]; rfl
theorem if_f {α : Type} {t : M Bool} {a b : M α} {e e1 : Sl} (h : t e = .ok false e1) : mIf t a b e = b e1 := by unfold mIf M.bind; rw [h]; rfl
theorem exp_ok {m : M O} {e e1 : Sl} {o : O} (h : m e = .ok o e1) : mExpr m e = .ok .nx e1 := by unfold mExpr M.bind; rw [h]; rfl
theorem bind_ok {α β : Type} {m : M α} {f : α → M β} {e e1 : Sl} {a : α} (h : m e = .ok a e1) : m.bind f e = f a e1 := by unfold M.bind; rw [h]
theorem call1 {g : Fn} {m : M O} {e e1 : Sl} {o r : O} (h : m e = .ok o e1) (hg : g [.sh o.er] = .ok r [none]) : mCall (fun os => if os.length = 1 then g os else .no) (mConsV m (M.ret [])) e = .ok r e1 := by
  unfold mCall
  have h1 : mConsV m (M.ret []) e = .ok [.v o] e1 := by unfold mConsV; rw [bind_ok h]; rfl
  rw [bind_ok h1]
  unfold mCallK takeA takeA
  simp only [Option.map_some, List.length_cons, List.length_nil, if_true, hg]
  rfl
theorem cons_ok {m : M O} {ms : M (List O)} {e e1 e2 : Sl} {o : O} {os : List O} (h : m e = .ok o e1) (h2 : ms e1 = .ok os e2) : mCons m ms e = .ok (o :: os) e2 := by
  unfold mCons
  rw [bind_ok h, bind_ok h2]
  rfl
theorem nil_ok {α : Type} {a : α} {e : Sl} : (M.ret a : M α) e = .ok a e := rfl
theorem cb_ok {f : List D → Option O} {ms : M (List O)} {e e1 : Sl} {os : List O} {o : O} (h : ms e = .ok os e1) (hf : f (os.map O.er) = some o) : mCB f ms e = .ok o e1 := by
  unfold mCB
  rw [bind_ok h, hf]
  rfl
theorem bin_ok {f : D → D → Option O} {a b : M O} {e e1 e2 : Sl} {x y o : O} (ha : a e = .ok x e1) (hb : b e1 = .ok y e2) (hf : f x.er y.er = some o) : mBin f a b e = .ok o e2 := by
  unfold mBin
  rw [bind_ok ha, bind_ok hb, hf]
  rfl
theorem un_ok {f : D → Option O} {a : M O} {e e1 : Sl} {x o : O} (ha : a e = .ok x e1) (hf : f x.er = some o) : mUn f a e = .ok o e1 := by
  unfold mUn
  rw [bind_ok ha, hf]
  rfl
theorem str1_ok {f : Str → D → Option O} {a b : M O} {e e1 e2 : Sl} {x y o : O} {s : Str} (ha : a e = .ok x e1) (hs : x.er = .str s) (hb : b e1 = .ok y e2) (hf : f s y.er = some o) : mStr1 f a b e = .ok o e2 := by
  unfold mStr1
  rw [bind_ok ha, hs]
  show (b.bind fun y => ofOpt (f s y.er)) e1 = _
  rw [bind_ok hb, hf]
  rfl
theorem walk_ok {a : M O} {e e1 : Sl} {x : O} {ds : List D} (ha : a e = .ok x e1) (hd : x.er.walk = some ds) : mWalk a e = .ok ds e1 := by
  unfold mWalk
  rw [bind_ok ha, hd]
  rfl
theorem comp_ok {vs : List Nat} {b : Bool} {mi : M (List D)} {f : O → Sl → Option Sl} {mt : M Bool} {me : M O} {e e1 e2 : Sl} {ds : List D} {o : O} (hi : mi e = .ok ds e1) (h : mCompK vs b f mt me ds e1 = .ok o e2) : mComp vs b mi f mt me e = .ok o e2 := by
  unfold mComp
  rw [bind_ok hi, h]
theorem tst_ok {m : M O} {e e1 : Sl} {o : O} {k : Bool} (h : m e = .ok o e1) (hk : o = .sh (.bl k)) : mTst m e = .ok k e1 := by
  subst hk
  unfold mTst
  rw [bind_ok h]
  rfl
theorem tru_ok {m : M O} {e e1 : Sl} {o : O} {k : Bool} (h : m e = .ok o e1) (hk : o.er.tru = some k) : mTru m e = .ok k e1 := by
  unfold mTru
  rw [bind_ok h, hk]
  rfl
theorem notB_ok {t : M Bool} {e e1 : Sl} {k : Bool} (h : t e = .ok k e1) : mNotB t e = .ok (!k) e1 := by
  unfold mNotB
  rw [bind_ok h]
  rfl
theorem and_t {a b : M Bool} {e e1 : Sl} (h : a e = .ok true e1) : mAnd a b e = b e1 := by unfold mAnd; rw [bind_ok h]; rfl
theorem and_f {a b : M Bool} {e e1 : Sl} (h : a e = .ok false e1) : mAnd a b e = .ok false e1 := by unfold mAnd; rw [bind_ok h]; rfl
theorem or_t {a b : M Bool} {e e1 : Sl} (h : a e = .ok true e1) : mOr a b e = .ok true e1 := by unfold mOr; rw [bind_ok h]; rfl
theorem or_f {a b : M Bool} {e e1 : Sl} (h : a e = .ok false e1) : mOr a b e = b e1 := by unfold mOr; rw [bind_ok h]; rfl
theorem lst_ok {ms : M (List O)} {e e1 : Sl} {os : List O} (h : ms e = .ok os e1) (hl : os.length ≤ sizeLine) : mLst ms e = .ok (.lst os) e1 := by
  unfold mLst
  rw [bind_ok h, if_pos hl]
  rfl
theorem tup_ok {ms : M (List O)} {e e1 : Sl} {os : List O} (h : ms e = .ok os e1) (hl : os.length ≤ sizeLine) : mTup ms e = .ok (.tup os) e1 := by
  unfold mTup
  rw [bind_ok h, if_pos hl]
  rfl
theorem for_nx {f : O → Sl → Option Sl} {mb : M Fl} {d : D} {ds : List D} {e e1 e2 : Sl} (h1 : f (.sh d) e = some e1) (h2 : mb e1 = .ok .nx e2) : mFor f mb (d :: ds) e = mFor f mb ds e2 := by
  conv => lhs; unfold mFor
  rw [bind_ok (show gM f (.sh d) e = .ok .nx e1 by unfold gM; simp only [h1]), bind_ok h2]
theorem for_rt {f : O → Sl → Option Sl} {mb : M Fl} {d : D} {ds : List D} {e e1 e2 : Sl} {o : O} (h1 : f (.sh d) e = some e1) (h2 : mb e1 = .ok (.rt o) e2) : mFor f mb (d :: ds) e = .ok (.rt o) e2 := by
  conv => lhs; unfold mFor
  rw [bind_ok (show gM f (.sh d) e = .ok .nx e1 by unfold gM; simp only [h1]), bind_ok h2]
  rfl
theorem bind_exc {α β : Type} {m : M α} {f : α → M β} {e e1 : Sl} {c : Str} {fs : List (Str × D)} (h : m e = .exc c fs e1) : m.bind f e = .exc c fs e1 := by unfold M.bind; rw [h]
theorem for_exc {f : O → Sl → Option Sl} {mb : M Fl} {d : D} {ds : List D} {e e1 e2 : Sl} {c : Str} {fs : List (Str × D)} (h1 : f (.sh d) e = some e1) (h2 : mb e1 = .exc c fs e2) : mFor f mb (d :: ds) e = .exc c fs e2 := by
  conv => lhs; unfold mFor
  rw [bind_ok (show gM f (.sh d) e = .ok .nx e1 by unfold gM; simp only [h1]), bind_exc h2]
theorem seq_exc {m1 m2 : M Fl} {e e1 : Sl} {c : Str} {fs : List (Str × D)} (h : m1 e = .exc c fs e1) : mSeq m1 m2 e = .exc c fs e1 := by unfold mSeq; rw [bind_exc h]
end L80

set_option Elab.async false
set_option linter.all false
set_option maxRecDepth 100000
set_option maxHeartbeats 2000000
namespace L80
open PySem PySem.Spec PyProof.Rows L2 Ow
/-! ### texts -/
abbrev tl (s : Str) : List Nat := s.cps.toList
/-- a short text of plain signs -/
def Ok (n : Nat) (s : Str) : Prop := s.length ≤ n ∧ ∀ c ∈ tl s, c < 128
theorem Ok.mono {m n : Nat} {s : Str} (h : Ok m s) (l : m ≤ n) : Ok n s := ⟨Nat.le_trans h.1 l, h.2⟩
theorem Ok.eqb {n : Nat} {s : Str} (h : Ok n s) : (D.str s).eqb = true := by
  have h1 : PyData.strOk s = true := by
    unfold PyData.strOk
    rw [Array.all_eq_true']
    intro c hc
    have := h.2 c (by simpa [tl] using hc)
    exact decide_eq_true (by omega)
  simp [D.eqb, D.pure, D.py, SeqAt.shaped, PyData.canLay0, PyData.depth, h1]
theorem eqv_str (s t : Str) : PyData.eqv (D.str s).py (D.str t).py = (s == t) := by simp [D.py, PyData.eqv]
theorem eqv_bl (s t : Bool) : PyData.eqv (D.bl s).py (D.bl t).py = (s == t) := by simp [D.py, PyData.eqv]
/-! ### isinstance -/
theorem asTy_tyD (t : Ty) (h : t ≠ .non) : (tyD t).asTy = some t := by
  cases t <;> first | exact absurd rfl h | decide +kernel
theorem isi1 (d : D) (t : Ty) (h : t ≠ .non) : isiF [d, tyD t] = d.ty.map fun a => .sh (.bl (a.sub t)) := by
  have e : isiF [d, tyD t] = d.ty.bind fun a => (tyD t).asTy.map fun b => .sh (.bl (a.sub b)) := rfl
  rw [e, asTy_tyD t h]
  cases d.ty <;> rfl
theorem isiLT (d : D) : isiF [d, .tup [tyD .list, tyD .tuple]] = d.ty.map fun a => .sh (.bl (a.sub .list || a.sub .tuple)) := by
  have e : isiF [d, .tup [tyD .list, tyD .tuple]] = d.ty.bind fun a => ([tyD .list, tyD .tuple].mapM D.asTy).map fun bs => .sh (.bl (bs.any fun b => a.sub b)) := rfl
  have e2 : [tyD .list, tyD .tuple].mapM D.asTy = some [.list, .tuple] := by
    rw [List.mapM_cons, asTy_tyD _ (by decide), List.mapM_cons, asTy_tyD _ (by decide)]; rfl
  rw [e, e2]
  cases d.ty <;> simp
theorem isi_bool (d : D) : isiF [d, tyD .bool] = d.ty.map fun a => .sh (.bl (a.sub .bool)) := isi1 d .bool (by decide)
theorem isi_int (d : D) : isiF [d, tyD .int] = d.ty.map fun a => .sh (.bl (a.sub .int)) := isi1 d .int (by decide)
theorem isi_str (d : D) : isiF [d, tyD .str] = d.ty.map fun a => .sh (.bl (a.sub .str)) := isi1 d .str (by decide)
theorem isi_list (d : D) : isiF [d, tyD .list] = d.ty.map fun a => .sh (.bl (a.sub .list)) := isi1 d .list (by decide)
theorem isi_tuple (d : D) : isiF [d, tyD .tuple] = d.ty.map fun a => .sh (.bl (a.sub .tuple)) := isi1 d .tuple (by decide)
theorem isi_dict (d : D) : isiF [d, tyD .dict] = d.ty.map fun a => .sh (.bl (a.sub .dict)) := isi1 d .dict (by decide)
/-! ### is_number, is_letter -/
def numB (lo hi : Int) : D → Bool
  | .int i => decide (lo ≤ i) && decide (i ≤ hi)
  | _ => false
theorem number_ok (c : Cs) (d : D) (lo hi : Int) (hd : d.ty ≠ none) : b_is_number c [.sh d, .sh (.int lo), .sh (.int hi)] = .ok (.sh (.bl (numB lo hi d))) [none, none, none] := by
  unfold b_is_number m_is_number
  cases d with
  | gl v => exact absurd rfl hd
  | int i =>
    by_cases h : lo ≤ i
    · simp only [bodyFn, Ow.back, mSeq, mIf, M.bind, M.ret, M.no, slotM, mName, mMove, mKid, O.kid, mBin, ofOpt, ofOptB, ofG, mAsg, gM, gSet, gPut, frz, mRet, mExpr, mTst, mTru, mNotB, mAnd, mOr, mAndV, mOrV, mNotV, mNmTru, mLenNm, mCB, c1, mCons, mUn, mLst, mTup, mPart, mSl, O.er, O.ers, O.asB, addF, addI, subI, mulF, mulI, modI, fdivI, powI, ltI, leI, gtI, geI, ii0, iiF, eqF, neF, intF_int, intF_bl, D.asI, lenF, mNeNil, O.neNil, mKidPop, O.kidPop, isNF, notNF, D.isN, mNeg, mConsV, mConsL, mConsW, mCall, mCallK, takeA, putA, mCallP, mCallPK, peekA, List.map_cons, List.map_nil, List.cons_append, List.nil_append, List.replicate, List.getElem?_cons_zero, List.getElem?_cons_succ, List.getElem?_nil, List.set_cons_zero, List.set_cons_succ, List.set_nil, List.length_cons, List.length_nil, List.length_set, Option.map_some, Option.map_none, Option.bind_some, Option.bind_none, Nat.reduceAdd, Nat.reduceSub, Nat.reduceLT, Nat.reduceLeDiff, Nat.lt_add_one, if_true, if_false, reduceIte, Bool.false_eq_true, decide_true, decide_false, Bool.and_true, Bool.true_and, Bool.and_false, Bool.false_and, Bool.not_true, Bool.not_false, List.range_succ, List.range_zero, List.mem_cons, List.not_mem_nil, or_false, or_true, true_or, false_or, List.getD_cons_zero, List.getD_cons_succ, List.map_append, Nat.one_ne_zero, Nat.reduceEqDiff, reduceCtorEq, eq_self,isi_int, isi_bool, D.ty, Ty.sub, D.tru, mChain, decide_eq_true h, numB]
    · simp only [bodyFn, Ow.back, mSeq, mIf, M.bind, M.ret, M.no, slotM, mName, mMove, mKid, O.kid, mBin, ofOpt, ofOptB, ofG, mAsg, gM, gSet, gPut, frz, mRet, mExpr, mTst, mTru, mNotB, mAnd, mOr, mAndV, mOrV, mNotV, mNmTru, mLenNm, mCB, c1, mCons, mUn, mLst, mTup, mPart, mSl, O.er, O.ers, O.asB, addF, addI, subI, mulF, mulI, modI, fdivI, powI, ltI, leI, gtI, geI, ii0, iiF, eqF, neF, intF_int, intF_bl, D.asI, lenF, mNeNil, O.neNil, mKidPop, O.kidPop, isNF, notNF, D.isN, mNeg, mConsV, mConsL, mConsW, mCall, mCallK, takeA, putA, mCallP, mCallPK, peekA, List.map_cons, List.map_nil, List.cons_append, List.nil_append, List.replicate, List.getElem?_cons_zero, List.getElem?_cons_succ, List.getElem?_nil, List.set_cons_zero, List.set_cons_succ, List.set_nil, List.length_cons, List.length_nil, List.length_set, Option.map_some, Option.map_none, Option.bind_some, Option.bind_none, Nat.reduceAdd, Nat.reduceSub, Nat.reduceLT, Nat.reduceLeDiff, Nat.lt_add_one, if_true, if_false, reduceIte, Bool.false_eq_true, decide_true, decide_false, Bool.and_true, Bool.true_and, Bool.and_false, Bool.false_and, Bool.not_true, Bool.not_false, List.range_succ, List.range_zero, List.mem_cons, List.not_mem_nil, or_false, or_true, true_or, false_or, List.getD_cons_zero, List.getD_cons_succ, List.map_append, Nat.one_ne_zero, Nat.reduceEqDiff, reduceCtorEq, eq_self,isi_int, isi_bool, D.ty, Ty.sub, D.tru, mChain, decide_eq_false h, numB]
  | bl b => simp only [bodyFn, Ow.back, mSeq, mIf, M.bind, M.ret, M.no, slotM, mName, mMove, mKid, O.kid, mBin, ofOpt, ofOptB, ofG, mAsg, gM, gSet, gPut, frz, mRet, mExpr, mTst, mTru, mNotB, mAnd, mOr, mAndV, mOrV, mNotV, mNmTru, mLenNm, mCB, c1, mCons, mUn, mLst, mTup, mPart, mSl, O.er, O.ers, O.asB, addF, addI, subI, mulF, mulI, modI, fdivI, powI, ltI, leI, gtI, geI, ii0, iiF, eqF, neF, intF_int, intF_bl, D.asI, lenF, mNeNil, O.neNil, mKidPop, O.kidPop, isNF, notNF, D.isN, mNeg, mConsV, mConsL, mConsW, mCall, mCallK, takeA, putA, mCallP, mCallPK, peekA, List.map_cons, List.map_nil, List.cons_append, List.nil_append, List.replicate, List.getElem?_cons_zero, List.getElem?_cons_succ, List.getElem?_nil, List.set_cons_zero, List.set_cons_succ, List.set_nil, List.length_cons, List.length_nil, List.length_set, Option.map_some, Option.map_none, Option.bind_some, Option.bind_none, Nat.reduceAdd, Nat.reduceSub, Nat.reduceLT, Nat.reduceLeDiff, Nat.lt_add_one, if_true, if_false, reduceIte, Bool.false_eq_true, decide_true, decide_false, Bool.and_true, Bool.true_and, Bool.and_false, Bool.false_and, Bool.not_true, Bool.not_false, List.range_succ, List.range_zero, List.mem_cons, List.not_mem_nil, or_false, or_true, true_or, false_or, List.getD_cons_zero, List.getD_cons_succ, List.map_append, Nat.one_ne_zero, Nat.reduceEqDiff, reduceCtorEq, eq_self,isi_int, isi_bool, D.ty, Ty.sub, D.tru, mChain, numB]
  | non => simp only [bodyFn, Ow.back, mSeq, mIf, M.bind, M.ret, M.no, slotM, mName, mMove, mKid, O.kid, mBin, ofOpt, ofOptB, ofG, mAsg, gM, gSet, gPut, frz, mRet, mExpr, mTst, mTru, mNotB, mAnd, mOr, mAndV, mOrV, mNotV, mNmTru, mLenNm, mCB, c1, mCons, mUn, mLst, mTup, mPart, mSl, O.er, O.ers, O.asB, addF, addI, subI, mulF, mulI, modI, fdivI, powI, ltI, leI, gtI, geI, ii0, iiF, eqF, neF, intF_int, intF_bl, D.asI, lenF, mNeNil, O.neNil, mKidPop, O.kidPop, isNF, notNF, D.isN, mNeg, mConsV, mConsL, mConsW, mCall, mCallK, takeA, putA, mCallP, mCallPK, peekA, List.map_cons, List.map_nil, List.cons_append, List.nil_append, List.replicate, List.getElem?_cons_zero, List.getElem?_cons_succ, List.getElem?_nil, List.set_cons_zero, List.set_cons_succ, List.set_nil, List.length_cons, List.length_nil, List.length_set, Option.map_some, Option.map_none, Option.bind_some, Option.bind_none, Nat.reduceAdd, Nat.reduceSub, Nat.reduceLT, Nat.reduceLeDiff, Nat.lt_add_one, if_true, if_false, reduceIte, Bool.false_eq_true, decide_true, decide_false, Bool.and_true, Bool.true_and, Bool.and_false, Bool.false_and, Bool.not_true, Bool.not_false, List.range_succ, List.range_zero, List.mem_cons, List.not_mem_nil, or_false, or_true, true_or, false_or, List.getD_cons_zero, List.getD_cons_succ, List.map_append, Nat.one_ne_zero, Nat.reduceEqDiff, reduceCtorEq, eq_self,isi_int, isi_bool, D.ty, Ty.sub, D.tru, mChain, numB]
  | str b => simp only [bodyFn, Ow.back, mSeq, mIf, M.bind, M.ret, M.no, slotM, mName, mMove, mKid, O.kid, mBin, ofOpt, ofOptB, ofG, mAsg, gM, gSet, gPut, frz, mRet, mExpr, mTst, mTru, mNotB, mAnd, mOr, mAndV, mOrV, mNotV, mNmTru, mLenNm, mCB, c1, mCons, mUn, mLst, mTup, mPart, mSl, O.er, O.ers, O.asB, addF, addI, subI, mulF, mulI, modI, fdivI, powI, ltI, leI, gtI, geI, ii0, iiF, eqF, neF, intF_int, intF_bl, D.asI, lenF, mNeNil, O.neNil, mKidPop, O.kidPop, isNF, notNF, D.isN, mNeg, mConsV, mConsL, mConsW, mCall, mCallK, takeA, putA, mCallP, mCallPK, peekA, List.map_cons, List.map_nil, List.cons_append, List.nil_append, List.replicate, List.getElem?_cons_zero, List.getElem?_cons_succ, List.getElem?_nil, List.set_cons_zero, List.set_cons_succ, List.set_nil, List.length_cons, List.length_nil, List.length_set, Option.map_some, Option.map_none, Option.bind_some, Option.bind_none, Nat.reduceAdd, Nat.reduceSub, Nat.reduceLT, Nat.reduceLeDiff, Nat.lt_add_one, if_true, if_false, reduceIte, Bool.false_eq_true, decide_true, decide_false, Bool.and_true, Bool.true_and, Bool.and_false, Bool.false_and, Bool.not_true, Bool.not_false, List.range_succ, List.range_zero, List.mem_cons, List.not_mem_nil, or_false, or_true, true_or, false_or, List.getD_cons_zero, List.getD_cons_succ, List.map_append, Nat.one_ne_zero, Nat.reduceEqDiff, reduceCtorEq, eq_self,isi_int, isi_bool, D.ty, Ty.sub, D.tru, mChain, numB]
  | lst b => simp only [bodyFn, Ow.back, mSeq, mIf, M.bind, M.ret, M.no, slotM, mName, mMove, mKid, O.kid, mBin, ofOpt, ofOptB, ofG, mAsg, gM, gSet, gPut, frz, mRet, mExpr, mTst, mTru, mNotB, mAnd, mOr, mAndV, mOrV, mNotV, mNmTru, mLenNm, mCB, c1, mCons, mUn, mLst, mTup, mPart, mSl, O.er, O.ers, O.asB, addF, addI, subI, mulF, mulI, modI, fdivI, powI, ltI, leI, gtI, geI, ii0, iiF, eqF, neF, intF_int, intF_bl, D.asI, lenF, mNeNil, O.neNil, mKidPop, O.kidPop, isNF, notNF, D.isN, mNeg, mConsV, mConsL, mConsW, mCall, mCallK, takeA, putA, mCallP, mCallPK, peekA, List.map_cons, List.map_nil, List.cons_append, List.nil_append, List.replicate, List.getElem?_cons_zero, List.getElem?_cons_succ, List.getElem?_nil, List.set_cons_zero, List.set_cons_succ, List.set_nil, List.length_cons, List.length_nil, List.length_set, Option.map_some, Option.map_none, Option.bind_some, Option.bind_none, Nat.reduceAdd, Nat.reduceSub, Nat.reduceLT, Nat.reduceLeDiff, Nat.lt_add_one, if_true, if_false, reduceIte, Bool.false_eq_true, decide_true, decide_false, Bool.and_true, Bool.true_and, Bool.and_false, Bool.false_and, Bool.not_true, Bool.not_false, List.range_succ, List.range_zero, List.mem_cons, List.not_mem_nil, or_false, or_true, true_or, false_or, List.getD_cons_zero, List.getD_cons_succ, List.map_append, Nat.one_ne_zero, Nat.reduceEqDiff, reduceCtorEq, eq_self,isi_int, isi_bool, D.ty, Ty.sub, D.tru, mChain, numB]
  | tup b => simp only [bodyFn, Ow.back, mSeq, mIf, M.bind, M.ret, M.no, slotM, mName, mMove, mKid, O.kid, mBin, ofOpt, ofOptB, ofG, mAsg, gM, gSet, gPut, frz, mRet, mExpr, mTst, mTru, mNotB, mAnd, mOr, mAndV, mOrV, mNotV, mNmTru, mLenNm, mCB, c1, mCons, mUn, mLst, mTup, mPart, mSl, O.er, O.ers, O.asB, addF, addI, subI, mulF, mulI, modI, fdivI, powI, ltI, leI, gtI, geI, ii0, iiF, eqF, neF, intF_int, intF_bl, D.asI, lenF, mNeNil, O.neNil, mKidPop, O.kidPop, isNF, notNF, D.isN, mNeg, mConsV, mConsL, mConsW, mCall, mCallK, takeA, putA, mCallP, mCallPK, peekA, List.map_cons, List.map_nil, List.cons_append, List.nil_append, List.replicate, List.getElem?_cons_zero, List.getElem?_cons_succ, List.getElem?_nil, List.set_cons_zero, List.set_cons_succ, List.set_nil, List.length_cons, List.length_nil, List.length_set, Option.map_some, Option.map_none, Option.bind_some, Option.bind_none, Nat.reduceAdd, Nat.reduceSub, Nat.reduceLT, Nat.reduceLeDiff, Nat.lt_add_one, if_true, if_false, reduceIte, Bool.false_eq_true, decide_true, decide_false, Bool.and_true, Bool.true_and, Bool.and_false, Bool.false_and, Bool.not_true, Bool.not_false, List.range_succ, List.range_zero, List.mem_cons, List.not_mem_nil, or_false, or_true, true_or, false_or, List.getD_cons_zero, List.getD_cons_succ, List.map_append, Nat.one_ne_zero, Nat.reduceEqDiff, reduceCtorEq, eq_self,isi_int, isi_bool, D.ty, Ty.sub, D.tru, mChain, numB]
  | dct b => simp only [bodyFn, Ow.back, mSeq, mIf, M.bind, M.ret, M.no, slotM, mName, mMove, mKid, O.kid, mBin, ofOpt, ofOptB, ofG, mAsg, gM, gSet, gPut, frz, mRet, mExpr, mTst, mTru, mNotB, mAnd, mOr, mAndV, mOrV, mNotV, mNmTru, mLenNm, mCB, c1, mCons, mUn, mLst, mTup, mPart, mSl, O.er, O.ers, O.asB, addF, addI, subI, mulF, mulI, modI, fdivI, powI, ltI, leI, gtI, geI, ii0, iiF, eqF, neF, intF_int, intF_bl, D.asI, lenF, mNeNil, O.neNil, mKidPop, O.kidPop, isNF, notNF, D.isN, mNeg, mConsV, mConsL, mConsW, mCall, mCallK, takeA, putA, mCallP, mCallPK, peekA, List.map_cons, List.map_nil, List.cons_append, List.nil_append, List.replicate, List.getElem?_cons_zero, List.getElem?_cons_succ, List.getElem?_nil, List.set_cons_zero, List.set_cons_succ, List.set_nil, List.length_cons, List.length_nil, List.length_set, Option.map_some, Option.map_none, Option.bind_some, Option.bind_none, Nat.reduceAdd, Nat.reduceSub, Nat.reduceLT, Nat.reduceLeDiff, Nat.lt_add_one, if_true, if_false, reduceIte, Bool.false_eq_true, decide_true, decide_false, Bool.and_true, Bool.true_and, Bool.and_false, Bool.false_and, Bool.not_true, Bool.not_false, List.range_succ, List.range_zero, List.mem_cons, List.not_mem_nil, or_false, or_true, true_or, false_or, List.getD_cons_zero, List.getD_cons_succ, List.map_append, Nat.one_ne_zero, Nat.reduceEqDiff, reduceCtorEq, eq_self,isi_int, isi_bool, D.ty, Ty.sub, D.tru, mChain, numB]
def letS (s : Str) : Bool := match tl s with
  | [ch] => decide (ch ∈ tl smallS)
  | _ => false
def letB : D → Bool
  | .str s => letS s
  | _ => false
theorem len_tl (s : Str) : s.length = (tl s).length := by simp [tl, Str.length]
theorem sizeLine_v : sizeLine = 16777216 := by decide
/-- data of flat parts: short texts, numbers -/
def Flat (n : Nat) : D → Prop
  | .str s => Ok n s
  | .int _ => True
  | .bl _ => True
  | .non => True
  | _ => False
theorem inF_str (neg : Bool) (s t : Str) : inF neg (.str s) (.str t) = (match tl s with | [c] => some (decide (c ∈ tl t)) | _ => none).map fun k => O.sh (.bl (if neg then !k else k)) := rfl
theorem inTab_str (kvs : List (Str × Int)) (s : Str) : inTab kvs (.str s) = some (.sh (.bl (kvs.lookup s).isSome)) := rfl
theorem ixTab_str (kvs : List (Str × Int)) (s : Str) : ixTab kvs (.str s) = (kvs.lookup s).map fun v => .sh (.int v) := rfl
theorem atI_nat {α : Type} {xs : List α} {i : Nat} {x : α} (h : xs[i]? = some x) : atI xs (i : Int) = some x := atI_of (ixN_nat (List.getElem?_eq_some_iff.mp h).1) h
theorem ixL {xs : List D} {i : Nat} {x : D} (h : xs[i]? = some x) : ixF (.lst xs) (.int (i : Int)) = some (.sh x) := by
  show (atI xs (i : Int)).map O.sh = _
  rw [atI_nat h]; rfl
theorem ixT {xs : List D} {i : Nat} {x : D} (h : xs[i]? = some x) : ixF (.tup xs) (.int (i : Int)) = some (.sh x) := by
  show (atI xs (i : Int)).map O.sh = _
  rw [atI_nat h]; rfl
theorem ty_str (s : Str) : (D.str s).ty = some .str := rfl
theorem sub_ss : Ty.str.sub .str = true := rfl
theorem len_str {s : Str} (h : s.length ≤ sizeLine) : (D.str s).len = some s.length := if_pos h
theorem len_lst (xs : List D) : (D.lst xs).len = some xs.length := rfl
theorem len_tup (xs : List D) : (D.tup xs).len = some xs.length := rfl
theorem fn_rt {np n : Nat} {io : List Nat} {m : M Fl} {os : List O} {o : O} {e : Sl} (h : m (os.map some ++ List.replicate (n - np) none) = .ok (.rt o) e) : bodyFn np n io m os = .ok o (Ow.back io np e) := by unfold bodyFn; rw [h]
theorem tru_bl (b : Bool) : (D.bl b).tru = some b := rfl
theorem letter_ok (c : Cs) {n : Nat} (d : D) (hn : n ≤ 100000) (hf : Flat n d) : b_is_letter c [.sh d] = .ok (.sh (.bl (letB d))) [none] := by
  unfold b_is_letter m_is_letter
  cases d with
  | gl v => exact hf.elim
  | lst v => exact hf.elim
  | tup v => exact hf.elim
  | dct v _ => exact hf.elim
  | int i => simp only [bodyFn, Ow.back, mSeq, mIf, M.bind, M.ret, M.no, slotM, mName, mMove, mKid, O.kid, mBin, ofOpt, ofOptB, ofG, mAsg, gM, gSet, gPut, frz, mRet, mExpr, mTst, mTru, mNotB, mAnd, mOr, mAndV, mOrV, mNotV, mNmTru, mLenNm, mCB, c1, mCons, mUn, mLst, mTup, mPart, mSl, O.er, O.ers, O.asB, addF, addI, subI, mulF, mulI, modI, fdivI, powI, ltI, leI, gtI, geI, ii0, iiF, eqF, neF, intF_int, intF_bl, D.asI, lenF, mNeNil, O.neNil, mKidPop, O.kidPop, isNF, notNF, D.isN, mNeg, mConsV, mConsL, mConsW, mCall, mCallK, takeA, putA, mCallP, mCallPK, peekA, List.map_cons, List.map_nil, List.cons_append, List.nil_append, List.replicate, List.getElem?_cons_zero, List.getElem?_cons_succ, List.getElem?_nil, List.set_cons_zero, List.set_cons_succ, List.set_nil, List.length_cons, List.length_nil, List.length_set, Option.map_some, Option.map_none, Option.bind_some, Option.bind_none, Nat.reduceAdd, Nat.reduceSub, Nat.reduceLT, Nat.reduceLeDiff, Nat.lt_add_one, if_true, if_false, reduceIte, Bool.false_eq_true, decide_true, decide_false, Bool.and_true, Bool.true_and, Bool.and_false, Bool.false_and, Bool.not_true, Bool.not_false, List.range_succ, List.range_zero, List.mem_cons, List.not_mem_nil, or_false, or_true, true_or, false_or, List.getD_cons_zero, List.getD_cons_succ, List.map_append, Nat.one_ne_zero, Nat.reduceEqDiff, reduceCtorEq, eq_self,isi_str, D.ty, Ty.sub, letB]
  | bl b => simp only [bodyFn, Ow.back, mSeq, mIf, M.bind, M.ret, M.no, slotM, mName, mMove, mKid, O.kid, mBin, ofOpt, ofOptB, ofG, mAsg, gM, gSet, gPut, frz, mRet, mExpr, mTst, mTru, mNotB, mAnd, mOr, mAndV, mOrV, mNotV, mNmTru, mLenNm, mCB, c1, mCons, mUn, mLst, mTup, mPart, mSl, O.er, O.ers, O.asB, addF, addI, subI, mulF, mulI, modI, fdivI, powI, ltI, leI, gtI, geI, ii0, iiF, eqF, neF, intF_int, intF_bl, D.asI, lenF, mNeNil, O.neNil, mKidPop, O.kidPop, isNF, notNF, D.isN, mNeg, mConsV, mConsL, mConsW, mCall, mCallK, takeA, putA, mCallP, mCallPK, peekA, List.map_cons, List.map_nil, List.cons_append, List.nil_append, List.replicate, List.getElem?_cons_zero, List.getElem?_cons_succ, List.getElem?_nil, List.set_cons_zero, List.set_cons_succ, List.set_nil, List.length_cons, List.length_nil, List.length_set, Option.map_some, Option.map_none, Option.bind_some, Option.bind_none, Nat.reduceAdd, Nat.reduceSub, Nat.reduceLT, Nat.reduceLeDiff, Nat.lt_add_one, if_true, if_false, reduceIte, Bool.false_eq_true, decide_true, decide_false, Bool.and_true, Bool.true_and, Bool.and_false, Bool.false_and, Bool.not_true, Bool.not_false, List.range_succ, List.range_zero, List.mem_cons, List.not_mem_nil, or_false, or_true, true_or, false_or, List.getD_cons_zero, List.getD_cons_succ, List.map_append, Nat.one_ne_zero, Nat.reduceEqDiff, reduceCtorEq, eq_self,isi_str, D.ty, Ty.sub, letB]
  | non => simp only [bodyFn, Ow.back, mSeq, mIf, M.bind, M.ret, M.no, slotM, mName, mMove, mKid, O.kid, mBin, ofOpt, ofOptB, ofG, mAsg, gM, gSet, gPut, frz, mRet, mExpr, mTst, mTru, mNotB, mAnd, mOr, mAndV, mOrV, mNotV, mNmTru, mLenNm, mCB, c1, mCons, mUn, mLst, mTup, mPart, mSl, O.er, O.ers, O.asB, addF, addI, subI, mulF, mulI, modI, fdivI, powI, ltI, leI, gtI, geI, ii0, iiF, eqF, neF, intF_int, intF_bl, D.asI, lenF, mNeNil, O.neNil, mKidPop, O.kidPop, isNF, notNF, D.isN, mNeg, mConsV, mConsL, mConsW, mCall, mCallK, takeA, putA, mCallP, mCallPK, peekA, List.map_cons, List.map_nil, List.cons_append, List.nil_append, List.replicate, List.getElem?_cons_zero, List.getElem?_cons_succ, List.getElem?_nil, List.set_cons_zero, List.set_cons_succ, List.set_nil, List.length_cons, List.length_nil, List.length_set, Option.map_some, Option.map_none, Option.bind_some, Option.bind_none, Nat.reduceAdd, Nat.reduceSub, Nat.reduceLT, Nat.reduceLeDiff, Nat.lt_add_one, if_true, if_false, reduceIte, Bool.false_eq_true, decide_true, decide_false, Bool.and_true, Bool.true_and, Bool.and_false, Bool.false_and, Bool.not_true, Bool.not_false, List.range_succ, List.range_zero, List.mem_cons, List.not_mem_nil, or_false, or_true, true_or, false_or, List.getD_cons_zero, List.getD_cons_succ, List.map_append, Nat.one_ne_zero, Nat.reduceEqDiff, reduceCtorEq, eq_self,isi_str, D.ty, Ty.sub, letB]
  | str s =>
    have hl : s.length ≤ sizeLine := by have := hf.1; rw [sizeLine_v]; omega
    by_cases h1 : s.length = 1
    · have hb : ((s.length : Int) == 1) = true := by rw [h1]; rfl
      obtain ⟨ch, hc⟩ : ∃ ch, tl s = [ch] := by
        rw [len_tl] at h1
        match h : tl s, h1 with
        | [ch], _ => exact ⟨ch, rfl⟩
      have e1 : inF false (.str s) (.str smallS) = some (.sh (.bl (decide (ch ∈ tl smallS)))) := by
        rw [inF_str, hc]
        rfl
      have e2 : letS s = decide (ch ∈ tl smallS) := by unfold letS; rw [hc]
      simp only [bodyFn, Ow.back, mSeq, mIf, M.bind, M.ret, M.no, slotM, mName, mMove, mKid, O.kid, mBin, ofOpt, ofOptB, ofG, mAsg, gM, gSet, gPut, frz, mRet, mExpr, mTst, mTru, mNotB, mAnd, mOr, mAndV, mOrV, mNotV, mNmTru, mLenNm, mCB, c1, mCons, mUn, mLst, mTup, mPart, mSl, O.er, O.ers, O.asB, addF, addI, subI, mulF, mulI, modI, fdivI, powI, ltI, leI, gtI, geI, ii0, iiF, eqF, neF, intF_int, intF_bl, D.asI, lenF, mNeNil, O.neNil, mKidPop, O.kidPop, isNF, notNF, D.isN, mNeg, mConsV, mConsL, mConsW, mCall, mCallK, takeA, putA, mCallP, mCallPK, peekA, List.map_cons, List.map_nil, List.cons_append, List.nil_append, List.replicate, List.getElem?_cons_zero, List.getElem?_cons_succ, List.getElem?_nil, List.set_cons_zero, List.set_cons_succ, List.set_nil, List.length_cons, List.length_nil, List.length_set, Option.map_some, Option.map_none, Option.bind_some, Option.bind_none, Nat.reduceAdd, Nat.reduceSub, Nat.reduceLT, Nat.reduceLeDiff, Nat.lt_add_one, if_true, if_false, reduceIte, Bool.false_eq_true, decide_true, decide_false, Bool.and_true, Bool.true_and, Bool.and_false, Bool.false_and, Bool.not_true, Bool.not_false, List.range_succ, List.range_zero, List.mem_cons, List.not_mem_nil, or_false, or_true, true_or, false_or, List.getD_cons_zero, List.getD_cons_succ, List.map_append, Nat.one_ne_zero, Nat.reduceEqDiff, reduceCtorEq, eq_self,isi_str, D.ty, Ty.sub, len_str hl, eqb_int, eqv_int, hb, e1, letB, e2]
    · have hb : ((s.length : Int) == 1) = false := by
        rw [beq_eq_false_iff_ne]; omega
      have e2 : letS s = false := by
        unfold letS
        split
        · rename_i ch hc
          exact absurd (by rw [len_tl, hc]; rfl) h1
        · rfl
      simp only [bodyFn, Ow.back, mSeq, mIf, M.bind, M.ret, M.no, slotM, mName, mMove, mKid, O.kid, mBin, ofOpt, ofOptB, ofG, mAsg, gM, gSet, gPut, frz, mRet, mExpr, mTst, mTru, mNotB, mAnd, mOr, mAndV, mOrV, mNotV, mNmTru, mLenNm, mCB, c1, mCons, mUn, mLst, mTup, mPart, mSl, O.er, O.ers, O.asB, addF, addI, subI, mulF, mulI, modI, fdivI, powI, ltI, leI, gtI, geI, ii0, iiF, eqF, neF, intF_int, intF_bl, D.asI, lenF, mNeNil, O.neNil, mKidPop, O.kidPop, isNF, notNF, D.isN, mNeg, mConsV, mConsL, mConsW, mCall, mCallK, takeA, putA, mCallP, mCallPK, peekA, List.map_cons, List.map_nil, List.cons_append, List.nil_append, List.replicate, List.getElem?_cons_zero, List.getElem?_cons_succ, List.getElem?_nil, List.set_cons_zero, List.set_cons_succ, List.set_nil, List.length_cons, List.length_nil, List.length_set, Option.map_some, Option.map_none, Option.bind_some, Option.bind_none, Nat.reduceAdd, Nat.reduceSub, Nat.reduceLT, Nat.reduceLeDiff, Nat.lt_add_one, if_true, if_false, reduceIte, Bool.false_eq_true, decide_true, decide_false, Bool.and_true, Bool.true_and, Bool.and_false, Bool.false_and, Bool.not_true, Bool.not_false, List.range_succ, List.range_zero, List.mem_cons, List.not_mem_nil, or_false, or_true, true_or, false_or, List.getD_cons_zero, List.getD_cons_succ, List.map_append, Nat.one_ne_zero, Nat.reduceEqDiff, reduceCtorEq, eq_self,isi_str, D.ty, Ty.sub, len_str hl, eqb_int, eqv_int, hb, letB, e2]
/-! ### is_deed -/
def rowOf : D → List D
  | .lst xs => xs
  | .tup xs => xs
  | _ => []
def deedB (d : D) : Bool := match rowOf d with
  | .str h :: r => decide (tab_SIZES.lookup h = some ((r.length : Int) + 1))
  | _ => false
theorem deed_ok (c : Cs) {n : Nat} (d : D) (hn : n ≤ 100000) (hf : ∀ x ∈ rowOf d, Flat n x) (hd : d.ty ≠ none) : b_is_deed c [.sh d] = .ok (.sh (.bl (deedB d))) [none] := by
  unfold b_is_deed m_is_deed
  have core : ∀ xs : List D, (d = .lst xs ∨ d = .tup xs) → mSeq (mIf (mOr (mNotB (mTru (mCB isiF (mCons (mName 0) (mCons (mTup (mCons (M.ret (.sh (tyD .list))) (mCons (M.ret (.sh (tyD .tuple))) (M.ret [])))) (M.ret [])))))) (mOr (mNotB (mNmTru 0)) (mNotB (mTru (mCB isiF (mCons (mBin ixF (mName 0) (M.ret (.sh (.int 0)))) (mCons (M.ret (.sh (tyD .str))) (M.ret [])))))))) (mRet (M.ret (.sh (.bl false)))) (M.ret .nx)) (mRet (mAndV (mUn (inTab tab_SIZES) (mBin ixF (mName 0) (M.ret (.sh (.int 0))))) (mBin eqF (mLenNm 0) (mUn (ixTab tab_SIZES) (mBin ixF (mName 0) (M.ret (.sh (.int 0)))))))) [some (.sh d)] = .ok (.rt (.sh (.bl (deedB d)))) [some (.sh d)] := by
    intro xs hx
    have hrow : rowOf d = xs := by rcases hx with rfl | rfl <;> rfl
    rw [hrow] at hf
    match xs, hx, hf with
    | [], hx, hf =>
      rcases hx with rfl | rfl
      · simp only [bodyFn, Ow.back, mSeq, mIf, M.bind, M.ret, M.no, slotM, mName, mMove, mKid, O.kid, mBin, ofOpt, ofOptB, ofG, mAsg, gM, gSet, gPut, frz, mRet, mExpr, mTst, mTru, mNotB, mAnd, mOr, mAndV, mOrV, mNotV, mNmTru, mLenNm, mCB, c1, mCons, mUn, mLst, mTup, mPart, mSl, O.er, O.ers, O.asB, addF, addI, subI, mulF, mulI, modI, fdivI, powI, ltI, leI, gtI, geI, ii0, iiF, eqF, neF, intF_int, intF_bl, D.asI, lenF, mNeNil, O.neNil, mKidPop, O.kidPop, isNF, notNF, D.isN, mNeg, mConsV, mConsL, mConsW, mCall, mCallK, takeA, putA, mCallP, mCallPK, peekA, List.map_cons, List.map_nil, List.cons_append, List.nil_append, List.replicate, List.getElem?_cons_zero, List.getElem?_cons_succ, List.getElem?_nil, List.set_cons_zero, List.set_cons_succ, List.set_nil, List.length_cons, List.length_nil, List.length_set, Option.map_some, Option.map_none, Option.bind_some, Option.bind_none, Nat.reduceAdd, Nat.reduceSub, Nat.reduceLT, Nat.reduceLeDiff, Nat.lt_add_one, if_true, if_false, reduceIte, Bool.false_eq_true, decide_true, decide_false, Bool.and_true, Bool.true_and, Bool.and_false, Bool.false_and, Bool.not_true, Bool.not_false, List.range_succ, List.range_zero, List.mem_cons, List.not_mem_nil, or_false, or_true, true_or, false_or, List.getD_cons_zero, List.getD_cons_succ, List.map_append, Nat.one_ne_zero, Nat.reduceEqDiff, reduceCtorEq, eq_self,isiLT, D.ty, Ty.sub, D.tru, deedB, rowOf, show decide (2 ≤ sizeLine) = true by decide, show (2 : Nat) ≤ sizeLine by decide, List.isEmpty_nil, Bool.or_true, Bool.true_or, Bool.or_false, Bool.false_or]
      · simp only [bodyFn, Ow.back, mSeq, mIf, M.bind, M.ret, M.no, slotM, mName, mMove, mKid, O.kid, mBin, ofOpt, ofOptB, ofG, mAsg, gM, gSet, gPut, frz, mRet, mExpr, mTst, mTru, mNotB, mAnd, mOr, mAndV, mOrV, mNotV, mNmTru, mLenNm, mCB, c1, mCons, mUn, mLst, mTup, mPart, mSl, O.er, O.ers, O.asB, addF, addI, subI, mulF, mulI, modI, fdivI, powI, ltI, leI, gtI, geI, ii0, iiF, eqF, neF, intF_int, intF_bl, D.asI, lenF, mNeNil, O.neNil, mKidPop, O.kidPop, isNF, notNF, D.isN, mNeg, mConsV, mConsL, mConsW, mCall, mCallK, takeA, putA, mCallP, mCallPK, peekA, List.map_cons, List.map_nil, List.cons_append, List.nil_append, List.replicate, List.getElem?_cons_zero, List.getElem?_cons_succ, List.getElem?_nil, List.set_cons_zero, List.set_cons_succ, List.set_nil, List.length_cons, List.length_nil, List.length_set, Option.map_some, Option.map_none, Option.bind_some, Option.bind_none, Nat.reduceAdd, Nat.reduceSub, Nat.reduceLT, Nat.reduceLeDiff, Nat.lt_add_one, if_true, if_false, reduceIte, Bool.false_eq_true, decide_true, decide_false, Bool.and_true, Bool.true_and, Bool.and_false, Bool.false_and, Bool.not_true, Bool.not_false, List.range_succ, List.range_zero, List.mem_cons, List.not_mem_nil, or_false, or_true, true_or, false_or, List.getD_cons_zero, List.getD_cons_succ, List.map_append, Nat.one_ne_zero, Nat.reduceEqDiff, reduceCtorEq, eq_self,isiLT, D.ty, Ty.sub, D.tru, deedB, rowOf, show decide (2 ≤ sizeLine) = true by decide, show (2 : Nat) ≤ sizeLine by decide, List.isEmpty_nil, Bool.or_true, Bool.true_or, Bool.or_false, Bool.false_or]
    | x :: r, hx, hf =>
      have hx0 := hf x List.mem_cons_self
      have notS : (∀ h, x ≠ .str h) → ∃ t, x.ty = some t ∧ t.sub .str = false := by
        intro hne
        cases x with
        | str h => exact absurd rfl (hne h)
        | int _ => exact ⟨.int, rfl, rfl⟩
        | bl _ => exact ⟨.bool, rfl, rfl⟩
        | non => exact ⟨.non, rfl, rfl⟩
        | lst _ => exact hx0.elim
        | tup _ => exact hx0.elim
        | gl _ => exact hx0.elim
        | dct _ _ => exact hx0.elim
      have ex : ixF d (.int 0) = some (.sh x) := by
        rcases hx with rfl | rfl
        · exact ixL (i := 0) rfl
        · exact ixT (i := 0) rfl
      have et : d.tru = some true := by rcases hx with rfl | rfl <;> rfl
      have ety : d.ty.map (fun a => a.sub .list || a.sub .tuple) = some true := by rcases hx with rfl | rfl <;> rfl
      obtain ⟨ty, hty⟩ : ∃ ty, d.ty = some ty := by rcases hx with rfl | rfl <;> exact ⟨_, rfl⟩
      have hsub : (ty.sub .list || ty.sub .tuple) = true := by rw [hty] at ety; simpa using ety
      by_cases hs : ∃ h, x = .str h
      · obtain ⟨h, rfl⟩ := hs
        have elen : d.len = some (r.length + 1) := by rcases hx with rfl | rfl <;> rfl
        have edb : deedB d = decide (tab_SIZES.lookup h = some ((r.length : Int) + 1)) := by unfold deedB; rw [hrow]
        cases hl : tab_SIZES.lookup h with
        | none =>
          have e1 : inTab tab_SIZES (.str h) = some (.sh (.bl false)) := by rw [inTab_str, hl]; rfl
          have e2 : deedB d = false := by rw [edb, hl]; rfl
          simp only [bodyFn, Ow.back, mSeq, mIf, M.bind, M.ret, M.no, slotM, mName, mMove, mKid, O.kid, mBin, ofOpt, ofOptB, ofG, mAsg, gM, gSet, gPut, frz, mRet, mExpr, mTst, mTru, mNotB, mAnd, mOr, mAndV, mOrV, mNotV, mNmTru, mLenNm, mCB, c1, mCons, mUn, mLst, mTup, mPart, mSl, O.er, O.ers, O.asB, addF, addI, subI, mulF, mulI, modI, fdivI, powI, ltI, leI, gtI, geI, ii0, iiF, eqF, neF, intF_int, intF_bl, D.asI, lenF, mNeNil, O.neNil, mKidPop, O.kidPop, isNF, notNF, D.isN, mNeg, mConsV, mConsL, mConsW, mCall, mCallK, takeA, putA, mCallP, mCallPK, peekA, List.map_cons, List.map_nil, List.cons_append, List.nil_append, List.replicate, List.getElem?_cons_zero, List.getElem?_cons_succ, List.getElem?_nil, List.set_cons_zero, List.set_cons_succ, List.set_nil, List.length_cons, List.length_nil, List.length_set, Option.map_some, Option.map_none, Option.bind_some, Option.bind_none, Nat.reduceAdd, Nat.reduceSub, Nat.reduceLT, Nat.reduceLeDiff, Nat.lt_add_one, if_true, if_false, reduceIte, Bool.false_eq_true, decide_true, decide_false, Bool.and_true, Bool.true_and, Bool.and_false, Bool.false_and, Bool.not_true, Bool.not_false, List.range_succ, List.range_zero, List.mem_cons, List.not_mem_nil, or_false, or_true, true_or, false_or, List.getD_cons_zero, List.getD_cons_succ, List.map_append, Nat.one_ne_zero, Nat.reduceEqDiff, reduceCtorEq, eq_self,isiLT, isi_str, hty, hsub, et, ex, ty_str, sub_ss, tru_bl, e1, e2, show (2 : Nat) ≤ sizeLine by decide]
        | some v =>
          have e1 : inTab tab_SIZES (.str h) = some (.sh (.bl true)) := by rw [inTab_str, hl]; rfl
          have e3 : ixTab tab_SIZES (.str h) = some (.sh (.int v)) := by rw [ixTab_str, hl]; rfl
          have e2 : deedB d = (((r.length + 1 : Nat) : Int) == v) := by
            rw [edb, hl]
            by_cases q : v = (r.length : Int) + 1
            · subst q; simp
            · have q1 : ¬ (some v = some ((r.length : Int) + 1)) := fun z => q (Option.some.inj z)
              have q2 : (((r.length + 1 : Nat) : Int) == v) = false := by rw [beq_eq_false_iff_ne]; intro z; apply q; omega
              rw [decide_eq_false q1, q2]
          simp only [bodyFn, Ow.back, mSeq, mIf, M.bind, M.ret, M.no, slotM, mName, mMove, mKid, O.kid, mBin, ofOpt, ofOptB, ofG, mAsg, gM, gSet, gPut, frz, mRet, mExpr, mTst, mTru, mNotB, mAnd, mOr, mAndV, mOrV, mNotV, mNmTru, mLenNm, mCB, c1, mCons, mUn, mLst, mTup, mPart, mSl, O.er, O.ers, O.asB, addF, addI, subI, mulF, mulI, modI, fdivI, powI, ltI, leI, gtI, geI, ii0, iiF, eqF, neF, intF_int, intF_bl, D.asI, lenF, mNeNil, O.neNil, mKidPop, O.kidPop, isNF, notNF, D.isN, mNeg, mConsV, mConsL, mConsW, mCall, mCallK, takeA, putA, mCallP, mCallPK, peekA, List.map_cons, List.map_nil, List.cons_append, List.nil_append, List.replicate, List.getElem?_cons_zero, List.getElem?_cons_succ, List.getElem?_nil, List.set_cons_zero, List.set_cons_succ, List.set_nil, List.length_cons, List.length_nil, List.length_set, Option.map_some, Option.map_none, Option.bind_some, Option.bind_none, Nat.reduceAdd, Nat.reduceSub, Nat.reduceLT, Nat.reduceLeDiff, Nat.lt_add_one, if_true, if_false, reduceIte, Bool.false_eq_true, decide_true, decide_false, Bool.and_true, Bool.true_and, Bool.and_false, Bool.false_and, Bool.not_true, Bool.not_false, List.range_succ, List.range_zero, List.mem_cons, List.not_mem_nil, or_false, or_true, true_or, false_or, List.getD_cons_zero, List.getD_cons_succ, List.map_append, Nat.one_ne_zero, Nat.reduceEqDiff, reduceCtorEq, eq_self,isiLT, isi_str, hty, hsub, et, ex, elen, ty_str, sub_ss, tru_bl, e1, e2, e3, eqb_int, eqv_int, show (2 : Nat) ≤ sizeLine by decide]
      · obtain ⟨t, ht, hts⟩ := notS fun h z => hs ⟨h, z⟩
        have e2 : deedB d = false := by
          unfold deedB
          rw [hrow]
          split
          · rename_i h r' q
            cases q
            exact absurd ⟨h, rfl⟩ hs
          · rfl
        simp only [bodyFn, Ow.back, mSeq, mIf, M.bind, M.ret, M.no, slotM, mName, mMove, mKid, O.kid, mBin, ofOpt, ofOptB, ofG, mAsg, gM, gSet, gPut, frz, mRet, mExpr, mTst, mTru, mNotB, mAnd, mOr, mAndV, mOrV, mNotV, mNmTru, mLenNm, mCB, c1, mCons, mUn, mLst, mTup, mPart, mSl, O.er, O.ers, O.asB, addF, addI, subI, mulF, mulI, modI, fdivI, powI, ltI, leI, gtI, geI, ii0, iiF, eqF, neF, intF_int, intF_bl, D.asI, lenF, mNeNil, O.neNil, mKidPop, O.kidPop, isNF, notNF, D.isN, mNeg, mConsV, mConsL, mConsW, mCall, mCallK, takeA, putA, mCallP, mCallPK, peekA, List.map_cons, List.map_nil, List.cons_append, List.nil_append, List.replicate, List.getElem?_cons_zero, List.getElem?_cons_succ, List.getElem?_nil, List.set_cons_zero, List.set_cons_succ, List.set_nil, List.length_cons, List.length_nil, List.length_set, Option.map_some, Option.map_none, Option.bind_some, Option.bind_none, Nat.reduceAdd, Nat.reduceSub, Nat.reduceLT, Nat.reduceLeDiff, Nat.lt_add_one, if_true, if_false, reduceIte, Bool.false_eq_true, decide_true, decide_false, Bool.and_true, Bool.true_and, Bool.and_false, Bool.false_and, Bool.not_true, Bool.not_false, List.range_succ, List.range_zero, List.mem_cons, List.not_mem_nil, or_false, or_true, true_or, false_or, List.getD_cons_zero, List.getD_cons_succ, List.map_append, Nat.one_ne_zero, Nat.reduceEqDiff, reduceCtorEq, eq_self,isiLT, isi_str, hty, hsub, et, ex, ht, hts, tru_bl, e2, show (2 : Nat) ≤ sizeLine by decide]
  have other : (∃ t, d.ty = some t ∧ (t.sub .list || t.sub .tuple) = false) → rowOf d = [] → bodyFn 1 1 [] (m_is_deed c) [.sh d] = .ok (.sh (.bl (deedB d))) [none] := by
    rintro ⟨t, ht, hts⟩ hr
    have e2 : deedB d = false := by unfold deedB; rw [hr]
    unfold m_is_deed
    simp only [bodyFn, Ow.back, mSeq, mIf, M.bind, M.ret, M.no, slotM, mName, mMove, mKid, O.kid, mBin, ofOpt, ofOptB, ofG, mAsg, gM, gSet, gPut, frz, mRet, mExpr, mTst, mTru, mNotB, mAnd, mOr, mAndV, mOrV, mNotV, mNmTru, mLenNm, mCB, c1, mCons, mUn, mLst, mTup, mPart, mSl, O.er, O.ers, O.asB, addF, addI, subI, mulF, mulI, modI, fdivI, powI, ltI, leI, gtI, geI, ii0, iiF, eqF, neF, intF_int, intF_bl, D.asI, lenF, mNeNil, O.neNil, mKidPop, O.kidPop, isNF, notNF, D.isN, mNeg, mConsV, mConsL, mConsW, mCall, mCallK, takeA, putA, mCallP, mCallPK, peekA, List.map_cons, List.map_nil, List.cons_append, List.nil_append, List.replicate, List.getElem?_cons_zero, List.getElem?_cons_succ, List.getElem?_nil, List.set_cons_zero, List.set_cons_succ, List.set_nil, List.length_cons, List.length_nil, List.length_set, Option.map_some, Option.map_none, Option.bind_some, Option.bind_none, Nat.reduceAdd, Nat.reduceSub, Nat.reduceLT, Nat.reduceLeDiff, Nat.lt_add_one, if_true, if_false, reduceIte, Bool.false_eq_true, decide_true, decide_false, Bool.and_true, Bool.true_and, Bool.and_false, Bool.false_and, Bool.not_true, Bool.not_false, List.range_succ, List.range_zero, List.mem_cons, List.not_mem_nil, or_false, or_true, true_or, false_or, List.getD_cons_zero, List.getD_cons_succ, List.map_append, Nat.one_ne_zero, Nat.reduceEqDiff, reduceCtorEq, eq_self,isiLT, ht, hts, tru_bl, e2, show (2 : Nat) ≤ sizeLine by decide]
  cases d with
  | lst xs =>
    exact fn_rt (core xs (.inl rfl))
  | tup xs =>
    exact fn_rt (core xs (.inr rfl))
  | gl v => exact absurd rfl hd
  | int i => exact other ⟨_, rfl, rfl⟩ rfl
  | bl i => exact other ⟨_, rfl, rfl⟩ rfl
  | str i => exact other ⟨_, rfl, rfl⟩ rfl
  | non => exact other ⟨_, rfl, rfl⟩ rfl
  | dct i j => exact other ⟨_, rfl, rfl⟩ rfl
end L80

set_option Elab.async false
set_option linter.all false
set_option maxRecDepth 100000
set_option maxHeartbeats 2000000
namespace L80
open PySem PySem.Spec PyProof.Rows L2 Ow
/-! ### plain_deed -/
abbrev hearS : Str := "hear"
abbrev tellS : Str := "tell"
abbrev freshS : Str := "fresh"
def pdB (xs : List D) : Bool := match xs with
  | [.str h, x, y] => decide (h = hearS) && (letB x && numB 0 3 y)
  | [.str h, x] => decide (h = tellS) && numB 0 5 x
  | [.str h] => decide (h = freshS)
  | _ => false
def pd (d : D) : D := if pdB (rowOf d) then .tup (rowOf d) else .non
theorem lookup_tab (h : Str) (v : Int) (e : tab_SIZES.lookup h = some v) : (h = hearS ∧ v = 3) ∨ (h = tellS ∧ v = 2) ∨ (h = freshS ∧ v = 1) := by
  unfold tab_SIZES at e
  simp only [List.lookup] at e
  split at e
  · rename_i q
    cases e
    exact .inl ⟨beq_iff_eq.mp q, rfl⟩
  · split at e
    · rename_i q
      cases e
      exact .inr (.inl ⟨beq_iff_eq.mp q, rfl⟩)
    · split at e
      · rename_i q
        cases e
        exact .inr (.inr ⟨beq_iff_eq.mp q, rfl⟩)
      · cases e
theorem deedB_cases {d : D} (h : deedB d = true) : (∃ x y, rowOf d = [.str hearS, x, y]) ∨ (∃ x, rowOf d = [.str tellS, x]) ∨ rowOf d = [.str freshS] := by
  unfold deedB at h
  split at h
  · rename_i s r q
    have h := of_decide_eq_true h
    rcases lookup_tab s _ h with ⟨rfl, e⟩ | ⟨rfl, e⟩ | ⟨rfl, e⟩
    · match r, e with
      | [x, y], _ => exact .inl ⟨x, y, q⟩
      | [], e => simp at e
      | [_], e => simp at e
      | _ :: _ :: _ :: _, e => simp at e; omega
    · match r, e with
      | [x], _ => exact .inr (.inl ⟨x, q⟩)
      | [], e => simp at e
      | _ :: _ :: _, e => simp at e; omega
    · match r, e with
      | [], _ => exact .inr (.inr q)
      | _ :: _, e => simp at e; omega
  · cases h
theorem lk1 : tab_SIZES.lookup hearS = some 3 := by decide +kernel
theorem lk2 : tab_SIZES.lookup tellS = some 2 := by decide +kernel
theorem lk3 : tab_SIZES.lookup freshS = some 1 := by decide +kernel
theorem pdB_deed {d : D} (h : deedB d = false) : pdB (rowOf d) = false := by
  cases hp : pdB (rowOf d) with
  | false => rfl
  | true =>
    unfold pdB at hp
    have key : ∀ (s : Str) (r : List D) (v : Int), rowOf d = .str s :: r → tab_SIZES.lookup s = some v → v = (r.length : Int) + 1 → deedB d = true := fun s r v e1 e2 e3 => by
      unfold deedB
      rw [e1]
      exact decide_eq_true (by rw [e2, e3])
    split at hp
    · rename_i s x y q
      rw [Bool.and_eq_true] at hp
      have := of_decide_eq_true hp.1
      subst this
      rw [key _ _ 3 q lk1 rfl] at h
      cases h
    · rename_i s x q
      rw [Bool.and_eq_true] at hp
      have := of_decide_eq_true hp.1
      subst this
      rw [key _ _ 2 q lk2 rfl] at h
      cases h
    · rename_i s q
      have := of_decide_eq_true hp
      subst this
      rw [key _ _ 1 q lk3 rfl] at h
      cases h
    · cases hp
theorem okS (s : Str) (h : ((tl s).all fun c => decide (c < 128)) = true) : Ok s.length s := ⟨Nat.le_refl _, fun c hc => of_decide_eq_true (List.all_eq_true.mp h c hc)⟩
theorem eb_hear : (D.str hearS).eqb = true := (okS hearS (by decide +kernel)).eqb
theorem eb_tell : (D.str tellS).eqb = true := (okS tellS (by decide +kernel)).eqb
theorem eb_fresh : (D.str freshS).eqb = true := (okS freshS (by decide +kernel)).eqb
theorem ne_ht : (hearS == tellS) = false := by decide +kernel
theorem ne_th : (tellS == hearS) = false := by decide +kernel
theorem ne_fh : (freshS == hearS) = false := by decide +kernel
theorem ne_ft : (freshS == tellS) = false := by decide +kernel
theorem ixR {d : D} {xs : List D} (hd : d = .lst xs ∨ d = .tup xs) {i : Nat} {x : D} (h : xs[i]? = some x) : ixF d (.int (i : Int)) = some (.sh x) := by
  rcases hd with rfl | rfl
  · exact ixL h
  · exact ixT h
theorem row_cases {d : D} (h : rowOf d ≠ []) : d = .lst (rowOf d) ∨ d = .tup (rowOf d) := by
  cases d <;> first | exact .inl rfl | exact .inr rfl | exact absurd rfl h
theorem tupF_row {d : D} (h : rowOf d ≠ []) : tupF d = some (.sh (.tup (rowOf d))) := by
  cases d <;> first | rfl | exact absurd rfl h
theorem plain_ok (c : Cs) {n : Nat} (d : D) (hn : n ≤ 100000) (hf : ∀ x ∈ rowOf d, Flat n x) (hd : d.ty ≠ none) : b_plain_deed (csUp c) [.sh d] = .ok (.sh (pd d)) [none] := by
  have hc : (csUp c).is_deed [.sh d] = .ok (.sh (.bl (deedB d))) [none] := deed_ok c d hn hf hd
  have hty : ∀ x, Flat n x → x.ty ≠ none := fun x hx => by
    cases x <;> first | exact hx.elim | exact fun z => by cases z
  have hl : ∀ x, Flat n x → (csUp c).is_letter [.sh x] = .ok (.sh (.bl (letB x))) [none] := fun x hx => letter_ok c x hn hx
  have hnm : ∀ x lo hi, Flat n x → (csUp c).is_number [.sh x, .sh (.int lo), .sh (.int hi)] = .ok (.sh (.bl (numB lo hi x))) [none, none, none] := fun x lo hi hx => number_ok c x lo hi (hty x hx)
  unfold b_plain_deed m_plain_deed
  cases hdb : deedB d with
  | false =>
    have hp : pd d = .non := by unfold pd; rw [pdB_deed hdb]; rfl
    rw [hdb] at hc
    simp only [bodyFn, Ow.back, mSeq, mIf, M.bind, M.ret, M.no, slotM, mName, mMove, mKid, O.kid, mBin, ofOpt, ofOptB, ofG, mAsg, gM, gSet, gPut, frz, mRet, mExpr, mTst, mTru, mNotB, mAnd, mOr, mAndV, mOrV, mNotV, mNmTru, mLenNm, mCB, c1, mCons, mUn, mLst, mTup, mPart, mSl, O.er, O.ers, O.asB, addF, addI, subI, mulF, mulI, modI, fdivI, powI, ltI, leI, gtI, geI, ii0, iiF, eqF, neF, intF_int, intF_bl, D.asI, lenF, mNeNil, O.neNil, mKidPop, O.kidPop, isNF, notNF, D.isN, mNeg, mConsV, mConsL, mConsW, mCall, mCallK, takeA, putA, mCallP, mCallPK, peekA, List.map_cons, List.map_nil, List.cons_append, List.nil_append, List.replicate, List.getElem?_cons_zero, List.getElem?_cons_succ, List.getElem?_nil, List.set_cons_zero, List.set_cons_succ, List.set_nil, List.length_cons, List.length_nil, List.length_set, Option.map_some, Option.map_none, Option.bind_some, Option.bind_none, Nat.reduceAdd, Nat.reduceSub, Nat.reduceLT, Nat.reduceLeDiff, Nat.lt_add_one, if_true, if_false, reduceIte, Bool.false_eq_true, decide_true, decide_false, Bool.and_true, Bool.true_and, Bool.and_false, Bool.false_and, Bool.not_true, Bool.not_false, List.range_succ, List.range_zero, List.mem_cons, List.not_mem_nil, or_false, or_true, true_or, false_or, List.getD_cons_zero, List.getD_cons_succ, List.map_append, Nat.one_ne_zero, Nat.reduceEqDiff, reduceCtorEq, eq_self,hc, tru_bl, hp]
  | true =>
    rw [hdb] at hc
    have i0 : ((0 : Nat) : Int) = 0 := rfl
    have i1 : ((1 : Nat) : Int) = 1 := rfl
    have i2 : ((2 : Nat) : Int) = 2 := rfl
    rcases deedB_cases hdb with ⟨x, y, hr⟩ | ⟨x, hr⟩ | hr
    · have hne : rowOf d ≠ [] := by rw [hr]; simp
      have e0 : ixF d (.int 0) = some (.sh (.str hearS)) := ixR (row_cases hne) (i := 0) (by rw [hr]; rfl)
      have e1 : ixF d (.int 1) = some (.sh x) := ixR (row_cases hne) (i := 1) (by rw [hr]; rfl)
      have e2 : ixF d (.int 2) = some (.sh y) := ixR (row_cases hne) (i := 2) (by rw [hr]; rfl)
      have fx : Flat n x := hf x (by rw [hr]; simp)
      have fy : Flat n y := hf y (by rw [hr]; simp)
      have hp : pd d = if letB x && numB 0 3 y then .tup (rowOf d) else .non := by unfold pd pdB; rw [hr]; simp
      cases hx : letB x with
      | false => simp only [bodyFn, Ow.back, mSeq, mIf, M.bind, M.ret, M.no, slotM, mName, mMove, mKid, O.kid, mBin, ofOpt, ofOptB, ofG, mAsg, gM, gSet, gPut, frz, mRet, mExpr, mTst, mTru, mNotB, mAnd, mOr, mAndV, mOrV, mNotV, mNmTru, mLenNm, mCB, c1, mCons, mUn, mLst, mTup, mPart, mSl, O.er, O.ers, O.asB, addF, addI, subI, mulF, mulI, modI, fdivI, powI, ltI, leI, gtI, geI, ii0, iiF, eqF, neF, intF_int, intF_bl, D.asI, lenF, mNeNil, O.neNil, mKidPop, O.kidPop, isNF, notNF, D.isN, mNeg, mConsV, mConsL, mConsW, mCall, mCallK, takeA, putA, mCallP, mCallPK, peekA, List.map_cons, List.map_nil, List.cons_append, List.nil_append, List.replicate, List.getElem?_cons_zero, List.getElem?_cons_succ, List.getElem?_nil, List.set_cons_zero, List.set_cons_succ, List.set_nil, List.length_cons, List.length_nil, List.length_set, Option.map_some, Option.map_none, Option.bind_some, Option.bind_none, Nat.reduceAdd, Nat.reduceSub, Nat.reduceLT, Nat.reduceLeDiff, Nat.lt_add_one, if_true, if_false, reduceIte, Bool.false_eq_true, decide_true, decide_false, Bool.and_true, Bool.true_and, Bool.and_false, Bool.false_and, Bool.not_true, Bool.not_false, List.range_succ, List.range_zero, List.mem_cons, List.not_mem_nil, or_false, or_true, true_or, false_or, List.getD_cons_zero, List.getD_cons_succ, List.map_append, Nat.one_ne_zero, Nat.reduceEqDiff, reduceCtorEq, eq_self,hc, tru_bl, e0, e1, e2, hl x fx, hnm y 0 3 fy, eb_hear, eb_tell, eqv_str, beq_self_eq_true, ne_ht, hx, tupF_row hne, hp]
      | true =>
        cases hy : numB 0 3 y with
        | false => simp only [bodyFn, Ow.back, mSeq, mIf, M.bind, M.ret, M.no, slotM, mName, mMove, mKid, O.kid, mBin, ofOpt, ofOptB, ofG, mAsg, gM, gSet, gPut, frz, mRet, mExpr, mTst, mTru, mNotB, mAnd, mOr, mAndV, mOrV, mNotV, mNmTru, mLenNm, mCB, c1, mCons, mUn, mLst, mTup, mPart, mSl, O.er, O.ers, O.asB, addF, addI, subI, mulF, mulI, modI, fdivI, powI, ltI, leI, gtI, geI, ii0, iiF, eqF, neF, intF_int, intF_bl, D.asI, lenF, mNeNil, O.neNil, mKidPop, O.kidPop, isNF, notNF, D.isN, mNeg, mConsV, mConsL, mConsW, mCall, mCallK, takeA, putA, mCallP, mCallPK, peekA, List.map_cons, List.map_nil, List.cons_append, List.nil_append, List.replicate, List.getElem?_cons_zero, List.getElem?_cons_succ, List.getElem?_nil, List.set_cons_zero, List.set_cons_succ, List.set_nil, List.length_cons, List.length_nil, List.length_set, Option.map_some, Option.map_none, Option.bind_some, Option.bind_none, Nat.reduceAdd, Nat.reduceSub, Nat.reduceLT, Nat.reduceLeDiff, Nat.lt_add_one, if_true, if_false, reduceIte, Bool.false_eq_true, decide_true, decide_false, Bool.and_true, Bool.true_and, Bool.and_false, Bool.false_and, Bool.not_true, Bool.not_false, List.range_succ, List.range_zero, List.mem_cons, List.not_mem_nil, or_false, or_true, true_or, false_or, List.getD_cons_zero, List.getD_cons_succ, List.map_append, Nat.one_ne_zero, Nat.reduceEqDiff, reduceCtorEq, eq_self,hc, tru_bl, e0, e1, e2, hl x fx, hnm y 0 3 fy, eb_hear, eb_tell, eqv_str, beq_self_eq_true, ne_ht, hx, hy, tupF_row hne, hp]
        | true => simp only [bodyFn, Ow.back, mSeq, mIf, M.bind, M.ret, M.no, slotM, mName, mMove, mKid, O.kid, mBin, ofOpt, ofOptB, ofG, mAsg, gM, gSet, gPut, frz, mRet, mExpr, mTst, mTru, mNotB, mAnd, mOr, mAndV, mOrV, mNotV, mNmTru, mLenNm, mCB, c1, mCons, mUn, mLst, mTup, mPart, mSl, O.er, O.ers, O.asB, addF, addI, subI, mulF, mulI, modI, fdivI, powI, ltI, leI, gtI, geI, ii0, iiF, eqF, neF, intF_int, intF_bl, D.asI, lenF, mNeNil, O.neNil, mKidPop, O.kidPop, isNF, notNF, D.isN, mNeg, mConsV, mConsL, mConsW, mCall, mCallK, takeA, putA, mCallP, mCallPK, peekA, List.map_cons, List.map_nil, List.cons_append, List.nil_append, List.replicate, List.getElem?_cons_zero, List.getElem?_cons_succ, List.getElem?_nil, List.set_cons_zero, List.set_cons_succ, List.set_nil, List.length_cons, List.length_nil, List.length_set, Option.map_some, Option.map_none, Option.bind_some, Option.bind_none, Nat.reduceAdd, Nat.reduceSub, Nat.reduceLT, Nat.reduceLeDiff, Nat.lt_add_one, if_true, if_false, reduceIte, Bool.false_eq_true, decide_true, decide_false, Bool.and_true, Bool.true_and, Bool.and_false, Bool.false_and, Bool.not_true, Bool.not_false, List.range_succ, List.range_zero, List.mem_cons, List.not_mem_nil, or_false, or_true, true_or, false_or, List.getD_cons_zero, List.getD_cons_succ, List.map_append, Nat.one_ne_zero, Nat.reduceEqDiff, reduceCtorEq, eq_self,hc, tru_bl, e0, e1, e2, hl x fx, hnm y 0 3 fy, eb_hear, eb_tell, eqv_str, beq_self_eq_true, ne_ht, hx, hy, tupF_row hne, hp]
    · have hne : rowOf d ≠ [] := by rw [hr]; simp
      have e0 : ixF d (.int 0) = some (.sh (.str tellS)) := ixR (row_cases hne) (i := 0) (by rw [hr]; rfl)
      have e1 : ixF d (.int 1) = some (.sh x) := ixR (row_cases hne) (i := 1) (by rw [hr]; rfl)
      have fx : Flat n x := hf x (by rw [hr]; simp)
      have hp : pd d = if numB 0 5 x then .tup (rowOf d) else .non := by unfold pd pdB; rw [hr]; simp
      cases hx : numB 0 5 x with
      | false => simp only [bodyFn, Ow.back, mSeq, mIf, M.bind, M.ret, M.no, slotM, mName, mMove, mKid, O.kid, mBin, ofOpt, ofOptB, ofG, mAsg, gM, gSet, gPut, frz, mRet, mExpr, mTst, mTru, mNotB, mAnd, mOr, mAndV, mOrV, mNotV, mNmTru, mLenNm, mCB, c1, mCons, mUn, mLst, mTup, mPart, mSl, O.er, O.ers, O.asB, addF, addI, subI, mulF, mulI, modI, fdivI, powI, ltI, leI, gtI, geI, ii0, iiF, eqF, neF, intF_int, intF_bl, D.asI, lenF, mNeNil, O.neNil, mKidPop, O.kidPop, isNF, notNF, D.isN, mNeg, mConsV, mConsL, mConsW, mCall, mCallK, takeA, putA, mCallP, mCallPK, peekA, List.map_cons, List.map_nil, List.cons_append, List.nil_append, List.replicate, List.getElem?_cons_zero, List.getElem?_cons_succ, List.getElem?_nil, List.set_cons_zero, List.set_cons_succ, List.set_nil, List.length_cons, List.length_nil, List.length_set, Option.map_some, Option.map_none, Option.bind_some, Option.bind_none, Nat.reduceAdd, Nat.reduceSub, Nat.reduceLT, Nat.reduceLeDiff, Nat.lt_add_one, if_true, if_false, reduceIte, Bool.false_eq_true, decide_true, decide_false, Bool.and_true, Bool.true_and, Bool.and_false, Bool.false_and, Bool.not_true, Bool.not_false, List.range_succ, List.range_zero, List.mem_cons, List.not_mem_nil, or_false, or_true, true_or, false_or, List.getD_cons_zero, List.getD_cons_succ, List.map_append, Nat.one_ne_zero, Nat.reduceEqDiff, reduceCtorEq, eq_self,hc, tru_bl, e0, e1, hnm x 0 5 fx, eb_hear, eb_tell, eqv_str, beq_self_eq_true, ne_th, hx, tupF_row hne, hp]
      | true => simp only [bodyFn, Ow.back, mSeq, mIf, M.bind, M.ret, M.no, slotM, mName, mMove, mKid, O.kid, mBin, ofOpt, ofOptB, ofG, mAsg, gM, gSet, gPut, frz, mRet, mExpr, mTst, mTru, mNotB, mAnd, mOr, mAndV, mOrV, mNotV, mNmTru, mLenNm, mCB, c1, mCons, mUn, mLst, mTup, mPart, mSl, O.er, O.ers, O.asB, addF, addI, subI, mulF, mulI, modI, fdivI, powI, ltI, leI, gtI, geI, ii0, iiF, eqF, neF, intF_int, intF_bl, D.asI, lenF, mNeNil, O.neNil, mKidPop, O.kidPop, isNF, notNF, D.isN, mNeg, mConsV, mConsL, mConsW, mCall, mCallK, takeA, putA, mCallP, mCallPK, peekA, List.map_cons, List.map_nil, List.cons_append, List.nil_append, List.replicate, List.getElem?_cons_zero, List.getElem?_cons_succ, List.getElem?_nil, List.set_cons_zero, List.set_cons_succ, List.set_nil, List.length_cons, List.length_nil, List.length_set, Option.map_some, Option.map_none, Option.bind_some, Option.bind_none, Nat.reduceAdd, Nat.reduceSub, Nat.reduceLT, Nat.reduceLeDiff, Nat.lt_add_one, if_true, if_false, reduceIte, Bool.false_eq_true, decide_true, decide_false, Bool.and_true, Bool.true_and, Bool.and_false, Bool.false_and, Bool.not_true, Bool.not_false, List.range_succ, List.range_zero, List.mem_cons, List.not_mem_nil, or_false, or_true, true_or, false_or, List.getD_cons_zero, List.getD_cons_succ, List.map_append, Nat.one_ne_zero, Nat.reduceEqDiff, reduceCtorEq, eq_self,hc, tru_bl, e0, e1, hnm x 0 5 fx, eb_hear, eb_tell, eqv_str, beq_self_eq_true, ne_th, hx, tupF_row hne, hp]
    · have hne : rowOf d ≠ [] := by rw [hr]; simp
      have e0 : ixF d (.int 0) = some (.sh (.str freshS)) := ixR (row_cases hne) (i := 0) (by rw [hr]; rfl)
      have hp : pd d = .tup (rowOf d) := by unfold pd pdB; rw [hr]; simp
      simp only [bodyFn, Ow.back, mSeq, mIf, M.bind, M.ret, M.no, slotM, mName, mMove, mKid, O.kid, mBin, ofOpt, ofOptB, ofG, mAsg, gM, gSet, gPut, frz, mRet, mExpr, mTst, mTru, mNotB, mAnd, mOr, mAndV, mOrV, mNotV, mNmTru, mLenNm, mCB, c1, mCons, mUn, mLst, mTup, mPart, mSl, O.er, O.ers, O.asB, addF, addI, subI, mulF, mulI, modI, fdivI, powI, ltI, leI, gtI, geI, ii0, iiF, eqF, neF, intF_int, intF_bl, D.asI, lenF, mNeNil, O.neNil, mKidPop, O.kidPop, isNF, notNF, D.isN, mNeg, mConsV, mConsL, mConsW, mCall, mCallK, takeA, putA, mCallP, mCallPK, peekA, List.map_cons, List.map_nil, List.cons_append, List.nil_append, List.replicate, List.getElem?_cons_zero, List.getElem?_cons_succ, List.getElem?_nil, List.set_cons_zero, List.set_cons_succ, List.set_nil, List.length_cons, List.length_nil, List.length_set, Option.map_some, Option.map_none, Option.bind_some, Option.bind_none, Nat.reduceAdd, Nat.reduceSub, Nat.reduceLT, Nat.reduceLeDiff, Nat.lt_add_one, if_true, if_false, reduceIte, Bool.false_eq_true, decide_true, decide_false, Bool.and_true, Bool.true_and, Bool.and_false, Bool.false_and, Bool.not_true, Bool.not_false, List.range_succ, List.range_zero, List.mem_cons, List.not_mem_nil, or_false, or_true, true_or, false_or, List.getD_cons_zero, List.getD_cons_succ, List.map_append, Nat.one_ne_zero, Nat.reduceEqDiff, reduceCtorEq, eq_self,hc, tru_bl, e0, eb_hear, eb_tell, eb_fresh, eqv_str, beq_self_eq_true, ne_fh, ne_ft, tupF_row hne, hp]
end L80

set_option Elab.async false
set_option linter.all false
set_option maxRecDepth 100000
set_option maxHeartbeats 2000000
namespace L80
open PySem PySem.Spec PyProof.Rows L2 Ow
/-! ### comprehensions -/
theorem comp_pure {vs : List Nat} {f : O → Sl → Option Sl} {mt : M Bool} {me : M O} {e0 : Sl} (p : D → Bool) (g : D → D) : ∀ (ds : List D) (acc : List O), (∀ d ∈ ds, ∃ e1 e2, f (.sh d) e0 = some e1 ∧ mt e1 = .ok (p d) e2 ∧ (p d = false → wipeE e2 vs = e0) ∧ (p d = true → ∃ o e3, me e2 = .ok o e3 ∧ wipeE e3 vs = e0 ∧ o.er = g d)) →
    mLoop vs true f mt me ds acc e0 = .ok (acc ++ ((ds.filter p).map fun d => .sh (g d))) e0
  | [], acc, _ => by simp [mLoop, M.ret]
  | d :: ds, acc, h => by
    obtain ⟨e1, e2, h1, h2, hF, hT⟩ := h d List.mem_cons_self
    unfold mLoop
    rw [h1]
    simp only []
    rw [h2]
    cases hp : p d with
    | false =>
      simp only []
      rw [hF hp, comp_pure p g ds acc fun d' hd' => h d' (List.mem_cons_of_mem _ hd'), List.filter_cons_of_neg (by rw [hp]; simp)]
    | true =>
      obtain ⟨o, e3, h3, h4, h5⟩ := hT hp
      simp only []
      rw [h3]
      simp only []
      rw [h4, comp_pure p g ds _ fun d' hd' => h d' (List.mem_cons_of_mem _ hd'), List.filter_cons_of_pos hp]
      have e : frz true o = .sh (g d) := by rw [← h5]; rfl
      rw [e]
      simp
theorem compK {vs : List Nat} {f : O → Sl → Option Sl} {mt : M Bool} {me : M O} {ds : List D} {e e0 : Sl} (p : D → Bool) (g : D → D) (hw : wipeE e vs = e0) (hr : restE e e0 vs = e) (hv : vs.all (fun v => decide (v < e.length)) = true)
    (h : ∀ d ∈ ds, ∃ e1 e2, f (.sh d) e0 = some e1 ∧ mt e1 = .ok (p d) e2 ∧ (p d = false → wipeE e2 vs = e0) ∧ (p d = true → ∃ o e3, me e2 = .ok o e3 ∧ wipeE e3 vs = e0 ∧ o.er = g d)) :
    mCompK vs true f mt me ds e = .ok (.lst ((ds.filter p).map fun d => .sh (g d))) e := by
  unfold mCompK
  rw [hw, comp_pure p g ds [] h]
  simp only [List.nil_append]
  rw [if_pos hv, hr]
theorem compK1 {vs : List Nat} {f : O → Sl → Option Sl} {me : M O} {ds : List D} {e e0 : Sl} (g : D → D) (hw : wipeE e vs = e0) (hr : restE e e0 vs = e) (hv : vs.all (fun v => decide (v < e.length)) = true)
    (h : ∀ d ∈ ds, ∃ e1 o e3, f (.sh d) e0 = some e1 ∧ me e1 = .ok o e3 ∧ wipeE e3 vs = e0 ∧ o.er = g d) :
    mCompK vs true f (M.ret true) me ds e = .ok (.lst (ds.map fun d => .sh (g d))) e := by
  have := compK (f := f) (mt := M.ret true) (me := me) (ds := ds) (fun _ => true) g hw hr hv fun d hd => by
    obtain ⟨e1, o, e3, h1, h2, h3, h4⟩ := h d hd
    exact ⟨e1, e1, h1, rfl, fun z => (by cases z), fun _ => ⟨o, e3, h2, h3, h4⟩⟩
  rw [this]
  congr 3
  simp
/-! ### cutting texts -/
abbrev S (l : List Nat) : Str := ⟨l.toArray⟩
theorem tl_S (l : List Nat) : tl (S l) = l := by simp [tl]
theorem S_tl (s : Str) : S (tl s) = s := TL.ext_tl (by simp [tl])
def cut (c : Nat) : List Nat → List Nat → List (List Nat)
  | acc, [] => [acc]
  | acc, x :: r => if x = c then acc :: cut c [] r else cut c (acc ++ [x]) r
theorem spl_cut (c : Nat) : ∀ (l acc : List Nat), TL.spl [c] 0 acc l = cut c acc l
  | [], acc => by rw [TL.spl_nil]; rfl
  | x :: r, acc => by
    unfold cut
    by_cases h : x = c
    · subst h
      rw [TL.spl_hit (by simp [TL.pre]), if_pos rfl]
      exact congrArg _ (spl_cut x r [])
    · rw [TL.spl_miss (by simp [TL.pre, h]), if_neg h]
      exact spl_cut c r _
theorem cut_len (c : Nat) : ∀ (l acc : List Nat), (cut c acc l).length ≤ l.length + 1 ∧ cut c acc l ≠ []
  | [], acc => by simp [cut]
  | x :: r, acc => by
    unfold cut
    split
    · have := (cut_len c r []).1
      simp; omega
    · have := cut_len c r (acc ++ [x])
      exact ⟨by simp; omega, this.2⟩
theorem cut_in (c : Nat) : ∀ (l acc : List Nat), ∀ p ∈ cut c acc l, p.length ≤ acc.length + l.length ∧ ∀ x ∈ p, x ∈ acc ∨ x ∈ l
  | [], acc, p, hp => by
    simp [cut] at hp
    subst hp
    exact ⟨by simp, fun x hx => .inl hx⟩
  | x :: r, acc, p, hp => by
    unfold cut at hp
    split at hp
    · rcases List.mem_cons.mp hp with rfl | hp
      · exact ⟨by simp, fun y hy => .inl hy⟩
      · obtain ⟨h1, h2⟩ := cut_in c r [] p hp
        exact ⟨by simp at h1 ⊢; omega, fun y hy => .inr (by rcases h2 y hy with z | z; cases z; exact List.mem_cons_of_mem _ z)⟩
    · obtain ⟨h1, h2⟩ := cut_in c r _ p hp
      refine ⟨by simp at h1 ⊢; omega, fun y hy => ?_⟩
      rcases h2 y hy with z | z
      · rcases List.mem_append.mp z with z | z
        · exact .inl z
        · rw [List.mem_singleton.mp z]; exact .inr List.mem_cons_self
      · exact .inr (List.mem_cons_of_mem _ z)
/-- the parts of a text -/
def parts (c : Nat) (s : Str) : List Str := (cut c [] (tl s)).map S
theorem split_parts (c : Nat) (hc : c < 256) (s : Str) : Txt.split s (S [c]) = parts c s := by
  have h := SX.split_S (a := tl s) (b := [c]) (by simp) (by simp [hc])
  have e : (⟨(tl s).toArray⟩ : Str) = s := S_tl s
  rw [show (SX.S (tl s)) = s from e] at h
  unfold parts
  rw [← spl_cut]
  exact h
theorem parts_ne (c : Nat) (s : Str) : parts c s ≠ [] := by
  unfold parts
  simpa using (cut_len c (tl s) []).2
theorem parts_ok {n c : Nat} {s : Str} (h : Ok n s) : (parts c s).length ≤ n + 1 ∧ ∀ p ∈ parts c s, Ok n p := by
  unfold parts
  have hl := h.1
  rw [len_tl] at hl
  refine ⟨by rw [List.length_map]; have := (cut_len c (tl s) []).1; omega, fun p hp => ?_⟩
  obtain ⟨q, hq, rfl⟩ := List.mem_map.mp hp
  obtain ⟨h1, h2⟩ := cut_in c _ _ q hq
  refine ⟨by rw [len_tl, tl_S]; have h1' : q.length ≤ 0 + (tl s).length := h1; omega, fun x hx => ?_⟩
  rw [tl_S] at hx
  rcases h2 x hx with z | z
  · cases z
  · exact h.2 x z
theorem splitF_ok' {n c : Nat} (hc : c < 256) {s t : Str} (ht : t = S [c]) (h : Ok n s) (hn : n ≤ 100000) : splitF s (.str t) = some (.lst ((parts c s).map fun z => .sh (.str z))) := by
  have h1 : (t.length == 0) = false := by rw [ht]; rfl
  have h2 : s.length + 2 ≤ sizeLine := by have := h.1; rw [sizeLine_v]; omega
  have e := split_parts c hc s
  have h3 : (Txt.split s t).length ≤ sizeLine := by rw [ht, e]; have := (parts_ok (c := c) h).1; rw [sizeLine_v]; omega
  show (if (t.length == 0) = false ∧ s.length + 2 ≤ sizeLine ∧ (Txt.split s t).length ≤ sizeLine then some (O.lst ((Txt.split s t).map fun z => .sh (.str z))) else none) = _
  rw [if_pos ⟨h1, h2, h3⟩, ht, e]
/-! ### numbers in texts -/
def numVal (w : Str) : Option Int := match tl w with
  | [ch] => if 48 ≤ ch ∧ ch ≤ 53 then some ((ch : Int) - 48) else none
  | _ => none
def conv (w : Str) : D := match numVal w with
  | some k => .int k
  | none => .str w
theorem six {w : Str} {k : Int} (h : numVal w = some k) : (w = ("0" : Str) ∧ k = 0) ∨ (w = ("1" : Str) ∧ k = 1) ∨ (w = ("2" : Str) ∧ k = 2) ∨ (w = ("3" : Str) ∧ k = 3) ∨ (w = ("4" : Str) ∧ k = 4) ∨ (w = ("5" : Str) ∧ k = 5) := by
  unfold numVal at h
  split at h
  · rename_i ch hc
    split at h
    · rename_i hh
      cases h
      have hw : w = S [ch] := by rw [← hc, S_tl]
      have : ch = 48 ∨ ch = 49 ∨ ch = 50 ∨ ch = 51 ∨ ch = 52 ∨ ch = 53 := by omega
      rcases this with rfl | rfl | rfl | rfl | rfl | rfl
      · exact .inl ⟨by rw [hw]; decide +kernel, rfl⟩
      · exact .inr (.inl ⟨by rw [hw]; decide +kernel, rfl⟩)
      · exact .inr (.inr (.inl ⟨by rw [hw]; decide +kernel, rfl⟩))
      · exact .inr (.inr (.inr (.inl ⟨by rw [hw]; decide +kernel, rfl⟩)))
      · exact .inr (.inr (.inr (.inr (.inl ⟨by rw [hw]; decide +kernel, rfl⟩))))
      · exact .inr (.inr (.inr (.inr (.inr ⟨by rw [hw]; decide +kernel, rfl⟩))))
    · cases h
  · cases h
theorem intNum {w : Str} {k : Int} (h : numVal w = some k) : intF (.str w) = some (.sh (.int k)) := by
  have key : ∀ (w : Str) (k : Int), w.length ≤ 640 → PySem.intText? w = some k → intF (.str w) = some (.sh (.int k)) := fun w k h1 h2 => by
    show (if w.length ≤ 640 then (PySem.intText? w).map fun n => O.sh (.int n) else none) = _
    rw [if_pos h1, h2]; rfl
  rcases six h with ⟨rfl, rfl⟩ | ⟨rfl, rfl⟩ | ⟨rfl, rfl⟩ | ⟨rfl, rfl⟩ | ⟨rfl, rfl⟩ | ⟨rfl, rfl⟩ <;> exact key _ _ (by decide +kernel) (by decide +kernel)
theorem inNums (w : Str) : inF false (.str w) (.tup numsD) = some (.sh (.bl (numVal w).isSome)) := by
  have e : inF false (.str w) (.tup numsD) = some (.sh (.bl (numsD.any fun z => PyData.eqv z.py (D.str w).py))) := rfl
  rw [e]
  have e2 : (numsD.any fun z => PyData.eqv z.py (D.str w).py) = (numVal w).isSome := by
    unfold numsD
    simp only [List.any_cons, List.any_nil, eqv_str, Bool.or_false]
    cases h : numVal w with
    | some k =>
      rcases six h with ⟨rfl, _⟩ | ⟨rfl, _⟩ | ⟨rfl, _⟩ | ⟨rfl, _⟩ | ⟨rfl, _⟩ | ⟨rfl, _⟩ <;> simp
    | none =>
      have key : ∀ t : Str, (numVal t).isSome = true → (t == w) = false := fun t ht => by
        rw [beq_eq_false_iff_ne]
        rintro rfl
        rw [h] at ht
        cases ht
      rw [key _ (by decide +kernel), key _ (by decide +kernel), key _ (by decide +kernel), key _ (by decide +kernel), key _ (by decide +kernel), key _ (by decide +kernel)]
      rfl
  rw [e2]
end L80

set_option Elab.async false
set_option linter.all false
set_option maxRecDepth 100000
set_option maxHeartbeats 4000000
namespace L80
open PySem PySem.Spec PyProof.Rows L2 Ow
theorem conv_some {w : Str} {k : Int} (h : numVal w = some k) : conv w = .int k := by unfold conv; rw [h]
theorem conv_none {w : Str} (h : numVal w = none) : conv w = .str w := by unfold conv; rw [h]
theorem letS_len {s : Str} (h : letS s = true) : s.length = 1 := by
  unfold letS at h
  split at h
  · rename_i ch hc; rw [len_tl, hc]; rfl
  · cases h
theorem num_len {s : Str} {k : Int} (h : numVal s = some k) : s.length = 1 := by
  unfold numVal at h
  split at h
  · rename_i ch hc; rw [len_tl, hc]; rfl
  · cases h
theorem num_let {s : Str} {k : Int} (h : numVal s = some k) : letS s = false := by
  rcases six h with ⟨rfl, _⟩ | ⟨rfl, _⟩ | ⟨rfl, _⟩ | ⟨rfl, _⟩ | ⟨rfl, _⟩ | ⟨rfl, _⟩ <;> decide +kernel
theorem letB_conv (s : Str) : letB (conv s) = letS s := by
  cases h : numVal s with
  | none => rw [conv_none h]; rfl
  | some k => rw [conv_some h, num_let h]; rfl
theorem num05 (s : Str) : numB 0 5 (conv s) = (numVal s).isSome := by
  cases h : numVal s with
  | none => rw [conv_none h]; rfl
  | some k =>
    rw [conv_some h]
    rcases six h with ⟨_, rfl⟩ | ⟨_, rfl⟩ | ⟨_, rfl⟩ | ⟨_, rfl⟩ | ⟨_, rfl⟩ | ⟨_, rfl⟩ <;> decide
theorem nv_hear : numVal hearS = none := by decide +kernel
theorem nv_tell : numVal tellS = none := by decide +kernel
theorem nv_fresh : numVal freshS = none := by decide +kernel
theorem conv_head (h : Str) {t : Str} (ht : numVal t = none) (r : List D) (k : List D → Bool) (hk : ∀ s r, k (.str s :: r) = true → s = t) (hi : ∀ i r, k (.int i :: r) = false) : k (conv h :: r) = (decide (h = t) && k (.str t :: r)) := by
  by_cases e : h = t
  · subst e
    rw [conv_none ht, decide_eq_true rfl, Bool.true_and]
  · rw [decide_eq_false e, Bool.false_and]
    cases q : numVal h with
    | some i => rw [conv_some q]; exact hi i r
    | none =>
      rw [conv_none q]
      cases z : k (.str h :: r) with
      | false => rfl
      | true => exact absurd (hk _ _ z) e
/-- whether words make a note -/
def wsB (ws : List Str) : Bool := match ws with
  | [h, x, y] => decide (h = hearS) && (letS x && numB 0 3 (conv y))
  | [h, x] => decide (h = tellS) && (numVal x).isSome
  | [h] => decide (h = freshS)
  | _ => false
theorem conv_cases (w : Str) : (∃ i, conv w = .int i ∧ numVal w = some i) ∨ (conv w = .str w ∧ numVal w = none) := by
  cases h : numVal w with
  | none => exact .inr ⟨conv_none h, rfl⟩
  | some k => exact .inl ⟨k, conv_some h, rfl⟩
theorem pd_ws (ws : List Str) : pdB (ws.map conv) = wsB ws := by
  match ws with
  | [] => rfl
  | [h] =>
    show pdB [conv h] = decide (h = freshS)
    rcases conv_cases h with ⟨i, e, q⟩ | ⟨e, q⟩
    · rw [e]
      have : ¬ h = freshS := fun z => by rw [z, nv_fresh] at q; cases q
      rw [decide_eq_false this]; rfl
    · rw [e]; rfl
  | [h, x] =>
    show pdB [conv h, conv x] = (decide (h = tellS) && (numVal x).isSome)
    rw [← num05]
    rcases conv_cases h with ⟨i, e, q⟩ | ⟨e, q⟩
    · rw [e]
      have : ¬ h = tellS := fun z => by rw [z, nv_tell] at q; cases q
      rw [decide_eq_false this]; rfl
    · rw [e]; rfl
  | [h, x, y] =>
    show pdB [conv h, conv x, conv y] = (decide (h = hearS) && (letS x && numB 0 3 (conv y)))
    rw [← letB_conv]
    rcases conv_cases h with ⟨i, e, q⟩ | ⟨e, q⟩
    · rw [e]
      have : ¬ h = hearS := fun z => by rw [z, nv_hear] at q; cases q
      rw [decide_eq_false this]; rfl
    · rw [e]; rfl
  | h :: x :: y :: z :: r =>
    show pdB (conv h :: conv x :: conv y :: conv z :: r.map conv) = false
    unfold pdB
    split <;> first | rfl | (rename_i q; simp at q)
theorem conv_flat {n : Nat} {w : Str} (h : Ok n w) : Flat n (conv w) := by
  rcases conv_cases w with ⟨i, e, _⟩ | ⟨e, _⟩ <;> rw [e]
  · trivial
  · exact h
/-- what a line tells -/
def lineD (line : Str) : D := pd (.lst ((parts 32 line).map conv))
theorem spS : (" " : Str) = S [32] := by decide +kernel
theorem deed_of_ok (c : Cs) {n : Nat} {line : Str} (h : Ok n line) (hn : n ≤ 100000) : b_deed_of (csUp (csUp c)) [.sh (.str line)] = .ok (.sh (lineD line)) [none] := by
  have hs : splitF line (.str (" " : Str)) = _ := splitF_ok' (c := 32) (by decide) spS h hn
  have hz : (O.lst ((parts 32 line).map fun z => O.sh (.str z))).er = .lst ((parts 32 line).map D.str) := by
    show D.lst (O.ers _) = _
    rw [O.ers_map, List.map_map]; rfl
  have hc : mCompK [1] true (gSet 1 true) (M.ret true) (mIf (mTst (mBin (inF false) (mName 1) (M.ret (.sh (.tup numsD))))) (mCB (c1 intF) (mCons (mName 1) (M.ret []))) (mName 1)) ((parts 32 line).map D.str) [some (.sh (.str line)), none] = .ok (.lst (((parts 32 line).map D.str).map fun d => .sh (match d with | .str w => conv w | d => d))) [some (.sh (.str line)), none] := by
    refine compK1 (e0 := [some (.sh (.str line)), none]) (fun d => match d with | .str w => conv w | d => d) rfl rfl rfl fun d hd => ?_
    obtain ⟨w, _, rfl⟩ := List.mem_map.mp hd
    rcases conv_cases w with ⟨i, e, q⟩ | ⟨e, q⟩
    · refine ⟨_, .sh (.int i), [some (.sh (.str line)), some (.sh (.str w))], rfl, ?_, rfl, e.symm⟩
      simp only [bodyFn, Ow.back, mSeq, mIf, M.bind, M.ret, M.no, slotM, mName, mMove, mKid, O.kid, mBin, ofOpt, ofOptB, ofG, mAsg, gM, gSet, gPut, frz, mRet, mExpr, mTst, mTru, mNotB, mAnd, mOr, mAndV, mOrV, mNotV, mNmTru, mLenNm, mCB, c1, mCons, mUn, mLst, mTup, mPart, mSl, O.er, O.ers, O.asB, addF, addI, subI, mulF, mulI, modI, fdivI, powI, ltI, leI, gtI, geI, ii0, iiF, eqF, neF, intF_int, intF_bl, D.asI, lenF, mNeNil, O.neNil, mKidPop, O.kidPop, isNF, notNF, D.isN, mNeg, mConsV, mConsL, mConsW, mCall, mCallK, takeA, putA, mCallP, mCallPK, peekA, List.map_cons, List.map_nil, List.cons_append, List.nil_append, List.replicate, List.getElem?_cons_zero, List.getElem?_cons_succ, List.getElem?_nil, List.set_cons_zero, List.set_cons_succ, List.set_nil, List.length_cons, List.length_nil, List.length_set, Option.map_some, Option.map_none, Option.bind_some, Option.bind_none, Nat.reduceAdd, Nat.reduceSub, Nat.reduceLT, Nat.reduceLeDiff, Nat.lt_add_one, if_true, if_false, reduceIte, Bool.false_eq_true, decide_true, decide_false, Bool.and_true, Bool.true_and, Bool.and_false, Bool.false_and, Bool.not_true, Bool.not_false, List.range_succ, List.range_zero, List.mem_cons, List.not_mem_nil, or_false, or_true, true_or, false_or, List.getD_cons_zero, List.getD_cons_succ, List.map_append, Nat.one_ne_zero, Nat.reduceEqDiff, reduceCtorEq, eq_self,inNums, q, Option.isSome_some, intNum q]
    · refine ⟨_, .sh (.str w), [some (.sh (.str line)), some (.sh (.str w))], rfl, ?_, rfl, e.symm⟩
      simp only [bodyFn, Ow.back, mSeq, mIf, M.bind, M.ret, M.no, slotM, mName, mMove, mKid, O.kid, mBin, ofOpt, ofOptB, ofG, mAsg, gM, gSet, gPut, frz, mRet, mExpr, mTst, mTru, mNotB, mAnd, mOr, mAndV, mOrV, mNotV, mNmTru, mLenNm, mCB, c1, mCons, mUn, mLst, mTup, mPart, mSl, O.er, O.ers, O.asB, addF, addI, subI, mulF, mulI, modI, fdivI, powI, ltI, leI, gtI, geI, ii0, iiF, eqF, neF, intF_int, intF_bl, D.asI, lenF, mNeNil, O.neNil, mKidPop, O.kidPop, isNF, notNF, D.isN, mNeg, mConsV, mConsL, mConsW, mCall, mCallK, takeA, putA, mCallP, mCallPK, peekA, List.map_cons, List.map_nil, List.cons_append, List.nil_append, List.replicate, List.getElem?_cons_zero, List.getElem?_cons_succ, List.getElem?_nil, List.set_cons_zero, List.set_cons_succ, List.set_nil, List.length_cons, List.length_nil, List.length_set, Option.map_some, Option.map_none, Option.bind_some, Option.bind_none, Nat.reduceAdd, Nat.reduceSub, Nat.reduceLT, Nat.reduceLeDiff, Nat.lt_add_one, if_true, if_false, reduceIte, Bool.false_eq_true, decide_true, decide_false, Bool.and_true, Bool.true_and, Bool.and_false, Bool.false_and, Bool.not_true, Bool.not_false, List.range_succ, List.range_zero, List.mem_cons, List.not_mem_nil, or_false, or_true, true_or, false_or, List.getD_cons_zero, List.getD_cons_succ, List.map_append, Nat.one_ne_zero, Nat.reduceEqDiff, reduceCtorEq, eq_self,inNums, q, Option.isSome_none]
  have hp : (csUp (csUp c)).plain_deed [.sh (.lst ((parts 32 line).map conv))] = .ok (.sh (lineD line)) [none] := plain_ok c _ hn (fun x hx => by
    obtain ⟨w, hw, rfl⟩ := List.mem_map.mp hx
    exact conv_flat ((parts_ok h).2 w hw)) (by intro z; cases z)
  have hr : (O.lst (((parts 32 line).map D.str).map fun d => O.sh (match d with | .str w => conv w | d => d))).er = .lst ((parts 32 line).map conv) := by
    show D.lst (O.ers _) = _
    rw [O.ers_map, List.map_map, List.map_map]; rfl
  refine fn_rt (o := .sh (lineD line)) (e := [some (.sh (.str line)), none]) (ret_ok (call1 (comp_ok (walk_ok (str1_ok (s := line) rfl rfl rfl hs) (by rw [hz]; rfl)) hc) ?_))
  rw [hr]
  exact hp
end L80

set_option Elab.async false
set_option linter.all false
set_option maxRecDepth 100000
set_option maxHeartbeats 4000000
namespace L80
open PySem PySem.Spec PyProof.Rows L2 Ow
theorem eqb_strs : ∀ {n : Nat} {ws : List Str}, (∀ w ∈ ws, Ok n w) → (D.lst (ws.map D.str)).eqb = true := by
  intro n ws h
  have h1 : D.pures (ws.map D.str) = true := by
    clear h
    induction ws with
    | nil => rfl
    | cons k ks ih => simp [D.pures, D.pure, ih]
  have h2 : PyData.canLayAll0 (D.pys (ws.map D.str)) = true ∧ PyData.depthAll (D.pys (ws.map D.str)) ≤ 2 := by
    clear h1
    induction ws with
    | nil => simp [D.pys, PyData.canLayAll0, PyData.depthAll]
    | cons k ks ih =>
      have hk := (h k List.mem_cons_self).eqb
      have i1 := ih fun w hw => h w (List.mem_cons_of_mem _ hw)
      have hk2 : PyData.strOk k = true := by
        simp [D.eqb, D.pure, D.py, SeqAt.shaped, PyData.canLay0, PyData.depth] at hk
        exact hk
      simp [D.pys, D.py, PyData.canLayAll0, PyData.depthAll, PyData.canLay0, PyData.depth, i1.1, hk2]; omega
  have h3 : PyData.depth (.list (D.pys (ws.map D.str))) ≤ 64 := by
    simp only [PyData.depth]; omega
  simp only [D.eqb, D.pure, D.py, SeqAt.shaped, PyData.canLay0, h1, h2.1, Bool.true_and]
  exact decide_eq_true h3
theorem eqv_strs : ∀ (ws vs : List Str), PyData.eqv (D.lst (ws.map D.str)).py (D.lst (vs.map D.str)).py = decide (ws = vs) := by
  intro ws vs
  show PyData.eqv (.list (D.pys (ws.map D.str))) (.list (D.pys (vs.map D.str))) = _
  simp only [PyData.eqv]
  induction ws generalizing vs with
  | nil => cases vs <;> simp [D.pys, PyData.eqvAll]
  | cons w ws ih =>
    cases vs with
    | nil => simp [D.pys, PyData.eqvAll]
    | cons v vs =>
      simp only [List.map_cons, D.pys, PyData.eqvAll, ih vs]
      rw [eqv_str]
      by_cases h : w = v
      · subst h; simp
      · simp [h]
theorem one_ch {s : Str} (h : s.length = 1) : ∃ ch, tl s = [ch] := by
  rw [len_tl] at h
  match q : tl s, h with
  | [ch], _ => exact ⟨ch, rfl⟩
theorem in5 {s : Str} (h : s.length = 1) : inF false (.str s) (.str ("012345" : Str)) = some (.sh (.bl (numVal s).isSome)) := by
  obtain ⟨ch, hc⟩ := one_ch h
  rw [inF_str, hc]
  have e : tl ("012345" : Str) = [48, 49, 50, 51, 52, 53] := by decide +kernel
  rw [e]
  unfold numVal
  rw [hc]
  by_cases q : 48 ≤ ch ∧ ch ≤ 53
  · have : ch ∈ [48, 49, 50, 51, 52, 53] := by simp; omega
    simp [q, this]
  · have : ch ∉ [48, 49, 50, 51, 52, 53] := by simp; omega
    simp [q, this]
theorem in3 {s : Str} (h : s.length = 1) : inF false (.str s) (.str ("0123" : Str)) = some (.sh (.bl (numB 0 3 (conv s)))) := by
  obtain ⟨ch, hc⟩ := one_ch h
  rw [inF_str, hc]
  have e : tl ("0123" : Str) = [48, 49, 50, 51] := by decide +kernel
  rw [e]
  unfold conv numVal
  rw [hc]
  by_cases q : 48 ≤ ch ∧ ch ≤ 53
  · simp only [if_pos q]
    have e2 : numB 0 3 (.int ((ch : Int) - 48)) = decide (ch ∈ [48, 49, 50, 51]) := by
      by_cases z : ch ≤ 51
      · have : ch ∈ [48, 49, 50, 51] := by simp; omega
        rw [decide_eq_true this]
        show (decide ((0 : Int) ≤ (ch : Int) - 48) && decide ((ch : Int) - 48 ≤ 3)) = true
        rw [decide_eq_true (by omega), decide_eq_true (by omega)]; rfl
      · have : ch ∉ [48, 49, 50, 51] := by simp; omega
        rw [decide_eq_false this]
        show (decide ((0 : Int) ≤ (ch : Int) - 48) && decide ((ch : Int) - 48 ≤ 3)) = false
        rw [decide_eq_false (p := (ch : Int) - 48 ≤ 3) (by omega), Bool.and_false]
    rw [e2]
    rfl
  · simp only [if_neg q]
    have : ch ∉ [48, 49, 50, 51] := by simp; omega
    rw [decide_eq_false this]
    rfl
theorem notL {s : Str} (h : s.length = 1) : inF true (.str s) (.str ("abcdefghijklmnopqrstuvwxyz" : Str)) = some (.sh (.bl (!letS s))) := by
  obtain ⟨ch, hc⟩ := one_ch h
  rw [inF_str, hc]
  unfold letS
  rw [hc]
  rfl
theorem num3_len {s : Str} (h : numB 0 3 (conv s) = true) : s.length = 1 ∧ ∃ k, numVal s = some k := by
  rcases conv_cases s with ⟨i, e, q⟩ | ⟨e, q⟩
  · exact ⟨num_len q, i, q⟩
  · rw [e] at h; cases h
theorem ixS {ws : List Str} {i : Nat} {w : Str} (h : ws[i]? = some w) : ixF (.lst (ws.map D.str)) (.int (i : Int)) = some (.sh (.str w)) := ixL (by rw [List.getElem?_map, h]; rfl)
theorem lenI {s : Str} {n : Nat} (h : Ok n s) (hn : n ≤ 100000) : (D.str s).len = some s.length := len_str (by have := h.1; rw [sizeLine_v]; omega)
theorem beqI (a b : Nat) : ((a : Int) == (b : Int)) = decide (a = b) := by
  by_cases h : a = b
  · subst h; simp
  · have : ((a : Int) == (b : Int)) = false := by rw [beq_eq_false_iff_ne]; omega
    rw [this, decide_eq_false h]
def lineO (line : Str) : O := if wsB (parts 32 line) then .tup (((parts 32 line).map conv).map O.sh) else .sh .non
theorem lineO_er (line : Str) : (lineO line).er = lineD line := by
  unfold lineO lineD pd
  show _ = (if pdB ((parts 32 line).map conv) then D.tup ((parts 32 line).map conv) else .non)
  rw [pd_ws]
  split
  · show D.tup (O.ers _) = _
    rw [O.ers_sh]
  · rfl
theorem mread_ok (c : Cs) {n : Nat} {line : Str} (h : Ok n line) (hn : n ≤ 100000) : b__law_mread c [.sh (.str line)] = .ok (lineO line) [none] := by
  have hs : splitF line (.str (" " : Str)) = _ := splitF_ok' (c := 32) (by decide) spS h hn
  have hok := (parts_ok (c := 32) h).2
  have hne := parts_ne 32 line
  unfold lineO
  generalize parts 32 line = ws at hs hok hne
  have hz : (O.lst (ws.map fun z => O.sh (.str z))).er = .lst (ws.map D.str) := by
    show D.lst (O.ers _) = _
    rw [O.ers_map, List.map_map]; rfl
  unfold b__law_mread m__law_mread
  have s1 : mAsg (mStr1 splitF (mName 0) (M.ret (.sh (.str (" " : Str))))) (gSet 1 true) [some (.sh (.str line)), none] = .ok .nx [some (.sh (.str line)), some (.sh (.lst (ws.map D.str)))] :=
    asg_ok (str1_ok (s := line) rfl rfl rfl hs) (by show some [some (O.sh (.str line)), some (frz true (O.lst (ws.map fun z => O.sh (.str z))))] = _; unfold frz; rw [if_pos rfl, hz])
  have fin : ∀ {r : O} {m : M Fl}, m [some (.sh (.str line)), some (.sh (.lst (ws.map D.str)))] = .ok (.rt r) [some (.sh (.str line)), some (.sh (.lst (ws.map D.str)))] → bodyFn 1 2 [] (mSeq (mAsg (mStr1 splitF (mName 0) (M.ret (.sh (.str (" " : Str))))) (gSet 1 true)) m) [.sh (.str line)] = .ok r [none] := fun {r m} hm => fn_rt (e := [some (.sh (.str line)), some (.sh (.lst (ws.map D.str)))]) ((seq_nx s1).trans hm)
  refine fin ?_
  have ef : (D.lst [D.str ("fresh" : Str)]).eqb = true := eqb_strs (ws := [freshS]) (n := 100) fun w hw => by rw [List.mem_singleton.mp hw]; exact (okS freshS (by decide +kernel)).mono (by decide +kernel)
  have ew := eqb_strs hok
  have evf : PyData.eqv (D.lst (ws.map D.str)).py (D.lst [D.str ("fresh" : Str)]).py = decide (ws = [freshS]) := eqv_strs ws [freshS]
  have es : (1 : Nat) ≤ sizeLine := by decide
  have es2 : (2 : Nat) ≤ sizeLine := by decide
  have es3 : (3 : Nat) ≤ sizeLine := by decide
  match ws, hne, hok, ew, evf with
  | [h0], _, hok, ew, evf =>
    have o0 := hok h0 List.mem_cons_self
    have i0 : ixF (.lst ([h0].map D.str)) (.int 0) = some (.sh (.str h0)) := ixS (i := 0) rfl
    by_cases q : h0 = freshS
    · subst q
      have e1 : wsB [freshS] = true := by decide +kernel
      have e2 : conv freshS = .str freshS := conv_none nv_fresh
      have evf' : decide ([freshS] = [freshS]) = true := decide_eq_true rfl
      rw [evf'] at evf
      simp only [List.map_cons, List.map_nil] at *
      simp only [bodyFn, Ow.back, mSeq, mIf, M.bind, M.ret, M.no, slotM, mName, mMove, mKid, O.kid, mBin, ofOpt, ofOptB, ofG, mAsg, gM, gSet, gPut, frz, mRet, mExpr, mTst, mTru, mNotB, mAnd, mOr, mAndV, mOrV, mNotV, mNmTru, mLenNm, mCB, c1, mCons, mUn, mLst, mTup, mPart, mSl, O.er, O.ers, O.asB, addF, addI, subI, mulF, mulI, modI, fdivI, powI, ltI, leI, gtI, geI, ii0, iiF, eqF, neF, intF_int, intF_bl, D.asI, lenF, mNeNil, O.neNil, mKidPop, O.kidPop, isNF, notNF, D.isN, mNeg, mConsV, mConsL, mConsW, mCall, mCallK, takeA, putA, mCallP, mCallPK, peekA, List.map_cons, List.map_nil, List.cons_append, List.nil_append, List.replicate, List.getElem?_cons_zero, List.getElem?_cons_succ, List.getElem?_nil, List.set_cons_zero, List.set_cons_succ, List.set_nil, List.length_cons, List.length_nil, List.length_set, Option.map_some, Option.map_none, Option.bind_some, Option.bind_none, Nat.reduceAdd, Nat.reduceSub, Nat.reduceLT, Nat.reduceLeDiff, Nat.lt_add_one, if_true, if_false, reduceIte, Bool.false_eq_true, decide_true, decide_false, Bool.and_true, Bool.true_and, Bool.and_false, Bool.false_and, Bool.not_true, Bool.not_false, List.range_succ, List.range_zero, List.mem_cons, List.not_mem_nil, or_false, or_true, true_or, false_or, List.getD_cons_zero, List.getD_cons_succ, List.map_append, Nat.one_ne_zero, Nat.reduceEqDiff, reduceCtorEq, eq_self,ew, ef, evf, es, e1, e2]
    · have e1 : wsB [h0] = false := decide_eq_false q
      have evf' : decide ([h0] = [freshS]) = false := decide_eq_false fun z => q (List.cons.inj z).1
      rw [evf'] at evf
      have l1 : (((1 : Nat) : Int) == 2) = false := by decide
      have l2 : (((1 : Nat) : Int) == 3) = false := by decide
      simp only [List.map_cons, List.map_nil] at *
      cases q2 : (h0 == tellS) <;> cases q3 : (h0 == hearS) <;> simp only [bodyFn, Ow.back, mSeq, mIf, M.bind, M.ret, M.no, slotM, mName, mMove, mKid, O.kid, mBin, ofOpt, ofOptB, ofG, mAsg, gM, gSet, gPut, frz, mRet, mExpr, mTst, mTru, mNotB, mAnd, mOr, mAndV, mOrV, mNotV, mNmTru, mLenNm, mCB, c1, mCons, mUn, mLst, mTup, mPart, mSl, O.er, O.ers, O.asB, addF, addI, subI, mulF, mulI, modI, fdivI, powI, ltI, leI, gtI, geI, ii0, iiF, eqF, neF, intF_int, intF_bl, D.asI, lenF, mNeNil, O.neNil, mKidPop, O.kidPop, isNF, notNF, D.isN, mNeg, mConsV, mConsL, mConsW, mCall, mCallK, takeA, putA, mCallP, mCallPK, peekA, List.map_cons, List.map_nil, List.cons_append, List.nil_append, List.replicate, List.getElem?_cons_zero, List.getElem?_cons_succ, List.getElem?_nil, List.set_cons_zero, List.set_cons_succ, List.set_nil, List.length_cons, List.length_nil, List.length_set, Option.map_some, Option.map_none, Option.bind_some, Option.bind_none, Nat.reduceAdd, Nat.reduceSub, Nat.reduceLT, Nat.reduceLeDiff, Nat.lt_add_one, if_true, if_false, reduceIte, Bool.false_eq_true, decide_true, decide_false, Bool.and_true, Bool.true_and, Bool.and_false, Bool.false_and, Bool.not_true, Bool.not_false, List.range_succ, List.range_zero, List.mem_cons, List.not_mem_nil, or_false, or_true, true_or, false_or, List.getD_cons_zero, List.getD_cons_succ, List.map_append, Nat.one_ne_zero, Nat.reduceEqDiff, reduceCtorEq, eq_self,ew, ef, evf, es, e1, i0, o0.eqb, eb_tell, eb_hear, eqv_str, q2, q3, len_lst, eqb_int, eqv_int, l1, l2]
  | [h0, x], _, hok, ew, evf =>
    have o0 := hok h0 List.mem_cons_self
    have ox := hok x (by simp)
    have i0 : ixF (.lst ([h0, x].map D.str)) (.int 0) = some (.sh (.str h0)) := ixS (i := 0) rfl
    have i1 : ixF (.lst ([h0, x].map D.str)) (.int 1) = some (.sh (.str x)) := ixS (i := 1) rfl
    have evf' : decide ([h0, x] = [freshS]) = false := decide_eq_false fun z => by simp at z
    rw [evf'] at evf
    have l1 : (((2 : Nat) : Int) == 2) = true := by decide
    have l2 : (((2 : Nat) : Int) == 3) = false := by decide
    have l3 : ((x.length : Int) == 1) = decide (x.length = 1) := beqI x.length 1
    have e1 : wsB [h0, x] = ((h0 == tellS) && (numVal x).isSome) := by
      show (decide (h0 = tellS) && _) = _
      by_cases q : h0 = tellS
      · subst q; simp
      · simp [q]
    simp only [List.map_cons, List.map_nil] at *
    cases q2 : (h0 == tellS) with
    | true =>
      have hh : h0 = tellS := beq_iff_eq.mp q2
      subst hh
      by_cases q4 : x.length = 1
      · cases q5 : numVal x with
        | some k =>
          have e2 : conv x = .int k := conv_some q5
          have e3 : conv tellS = .str tellS := conv_none nv_tell
          simp only [bodyFn, Ow.back, mSeq, mIf, M.bind, M.ret, M.no, slotM, mName, mMove, mKid, O.kid, mBin, ofOpt, ofOptB, ofG, mAsg, gM, gSet, gPut, frz, mRet, mExpr, mTst, mTru, mNotB, mAnd, mOr, mAndV, mOrV, mNotV, mNmTru, mLenNm, mCB, c1, mCons, mUn, mLst, mTup, mPart, mSl, O.er, O.ers, O.asB, addF, addI, subI, mulF, mulI, modI, fdivI, powI, ltI, leI, gtI, geI, ii0, iiF, eqF, neF, intF_int, intF_bl, D.asI, lenF, mNeNil, O.neNil, mKidPop, O.kidPop, isNF, notNF, D.isN, mNeg, mConsV, mConsL, mConsW, mCall, mCallK, takeA, putA, mCallP, mCallPK, peekA, List.map_cons, List.map_nil, List.cons_append, List.nil_append, List.replicate, List.getElem?_cons_zero, List.getElem?_cons_succ, List.getElem?_nil, List.set_cons_zero, List.set_cons_succ, List.set_nil, List.length_cons, List.length_nil, List.length_set, Option.map_some, Option.map_none, Option.bind_some, Option.bind_none, Nat.reduceAdd, Nat.reduceSub, Nat.reduceLT, Nat.reduceLeDiff, Nat.lt_add_one, if_true, if_false, reduceIte, Bool.false_eq_true, decide_true, decide_false, Bool.and_true, Bool.true_and, Bool.and_false, Bool.false_and, Bool.not_true, Bool.not_false, List.range_succ, List.range_zero, List.mem_cons, List.not_mem_nil, or_false, or_true, true_or, false_or, List.getD_cons_zero, List.getD_cons_succ, List.map_append, Nat.one_ne_zero, Nat.reduceEqDiff, reduceCtorEq, eq_self,ew, ef, evf, es, es2, e1, e2, e3, i0, i1, o0.eqb, eb_tell, eb_hear, eqv_str, q2, len_lst, lenI ox hn, eqb_int, eqv_int, l1, l2, l3, decide_eq_true q4, in5 q4, q5, Option.isSome_some, intNum q5]
        | none => simp only [bodyFn, Ow.back, mSeq, mIf, M.bind, M.ret, M.no, slotM, mName, mMove, mKid, O.kid, mBin, ofOpt, ofOptB, ofG, mAsg, gM, gSet, gPut, frz, mRet, mExpr, mTst, mTru, mNotB, mAnd, mOr, mAndV, mOrV, mNotV, mNmTru, mLenNm, mCB, c1, mCons, mUn, mLst, mTup, mPart, mSl, O.er, O.ers, O.asB, addF, addI, subI, mulF, mulI, modI, fdivI, powI, ltI, leI, gtI, geI, ii0, iiF, eqF, neF, intF_int, intF_bl, D.asI, lenF, mNeNil, O.neNil, mKidPop, O.kidPop, isNF, notNF, D.isN, mNeg, mConsV, mConsL, mConsW, mCall, mCallK, takeA, putA, mCallP, mCallPK, peekA, List.map_cons, List.map_nil, List.cons_append, List.nil_append, List.replicate, List.getElem?_cons_zero, List.getElem?_cons_succ, List.getElem?_nil, List.set_cons_zero, List.set_cons_succ, List.set_nil, List.length_cons, List.length_nil, List.length_set, Option.map_some, Option.map_none, Option.bind_some, Option.bind_none, Nat.reduceAdd, Nat.reduceSub, Nat.reduceLT, Nat.reduceLeDiff, Nat.lt_add_one, if_true, if_false, reduceIte, Bool.false_eq_true, decide_true, decide_false, Bool.and_true, Bool.true_and, Bool.and_false, Bool.false_and, Bool.not_true, Bool.not_false, List.range_succ, List.range_zero, List.mem_cons, List.not_mem_nil, or_false, or_true, true_or, false_or, List.getD_cons_zero, List.getD_cons_succ, List.map_append, Nat.one_ne_zero, Nat.reduceEqDiff, reduceCtorEq, eq_self,ew, ef, evf, es, es2, e1, i0, i1, o0.eqb, eb_tell, eb_hear, eqv_str, q2, ne_th, len_lst, lenI ox hn, eqb_int, eqv_int, l1, l2, l3, decide_eq_true q4, in5 q4, q5, Option.isSome_none]
      · have q5 : numVal x = none := by
          cases z : numVal x with
          | none => rfl
          | some k => exact absurd (num_len z) q4
        simp only [bodyFn, Ow.back, mSeq, mIf, M.bind, M.ret, M.no, slotM, mName, mMove, mKid, O.kid, mBin, ofOpt, ofOptB, ofG, mAsg, gM, gSet, gPut, frz, mRet, mExpr, mTst, mTru, mNotB, mAnd, mOr, mAndV, mOrV, mNotV, mNmTru, mLenNm, mCB, c1, mCons, mUn, mLst, mTup, mPart, mSl, O.er, O.ers, O.asB, addF, addI, subI, mulF, mulI, modI, fdivI, powI, ltI, leI, gtI, geI, ii0, iiF, eqF, neF, intF_int, intF_bl, D.asI, lenF, mNeNil, O.neNil, mKidPop, O.kidPop, isNF, notNF, D.isN, mNeg, mConsV, mConsL, mConsW, mCall, mCallK, takeA, putA, mCallP, mCallPK, peekA, List.map_cons, List.map_nil, List.cons_append, List.nil_append, List.replicate, List.getElem?_cons_zero, List.getElem?_cons_succ, List.getElem?_nil, List.set_cons_zero, List.set_cons_succ, List.set_nil, List.length_cons, List.length_nil, List.length_set, Option.map_some, Option.map_none, Option.bind_some, Option.bind_none, Nat.reduceAdd, Nat.reduceSub, Nat.reduceLT, Nat.reduceLeDiff, Nat.lt_add_one, if_true, if_false, reduceIte, Bool.false_eq_true, decide_true, decide_false, Bool.and_true, Bool.true_and, Bool.and_false, Bool.false_and, Bool.not_true, Bool.not_false, List.range_succ, List.range_zero, List.mem_cons, List.not_mem_nil, or_false, or_true, true_or, false_or, List.getD_cons_zero, List.getD_cons_succ, List.map_append, Nat.one_ne_zero, Nat.reduceEqDiff, reduceCtorEq, eq_self,ew, ef, evf, es, es2, e1, i0, i1, o0.eqb, eb_tell, eb_hear, eqv_str, q2, ne_th, len_lst, lenI ox hn, eqb_int, eqv_int, l1, l2, l3, decide_eq_false q4, q5, Option.isSome_none]
    | false =>
      cases q3 : (h0 == hearS) <;> simp only [bodyFn, Ow.back, mSeq, mIf, M.bind, M.ret, M.no, slotM, mName, mMove, mKid, O.kid, mBin, ofOpt, ofOptB, ofG, mAsg, gM, gSet, gPut, frz, mRet, mExpr, mTst, mTru, mNotB, mAnd, mOr, mAndV, mOrV, mNotV, mNmTru, mLenNm, mCB, c1, mCons, mUn, mLst, mTup, mPart, mSl, O.er, O.ers, O.asB, addF, addI, subI, mulF, mulI, modI, fdivI, powI, ltI, leI, gtI, geI, ii0, iiF, eqF, neF, intF_int, intF_bl, D.asI, lenF, mNeNil, O.neNil, mKidPop, O.kidPop, isNF, notNF, D.isN, mNeg, mConsV, mConsL, mConsW, mCall, mCallK, takeA, putA, mCallP, mCallPK, peekA, List.map_cons, List.map_nil, List.cons_append, List.nil_append, List.replicate, List.getElem?_cons_zero, List.getElem?_cons_succ, List.getElem?_nil, List.set_cons_zero, List.set_cons_succ, List.set_nil, List.length_cons, List.length_nil, List.length_set, Option.map_some, Option.map_none, Option.bind_some, Option.bind_none, Nat.reduceAdd, Nat.reduceSub, Nat.reduceLT, Nat.reduceLeDiff, Nat.lt_add_one, if_true, if_false, reduceIte, Bool.false_eq_true, decide_true, decide_false, Bool.and_true, Bool.true_and, Bool.and_false, Bool.false_and, Bool.not_true, Bool.not_false, List.range_succ, List.range_zero, List.mem_cons, List.not_mem_nil, or_false, or_true, true_or, false_or, List.getD_cons_zero, List.getD_cons_succ, List.map_append, Nat.one_ne_zero, Nat.reduceEqDiff, reduceCtorEq, eq_self,ew, ef, evf, es, es2, e1, i0, i1, o0.eqb, eb_tell, eb_hear, eqv_str, q2, q3, len_lst, eqb_int, eqv_int, l1, l2]
  | [h0, x, y], _, hok, ew, evf =>
    have o0 := hok h0 List.mem_cons_self
    have ox := hok x (by simp)
    have oy := hok y (by simp)
    have i0 : ixF (.lst ([h0, x, y].map D.str)) (.int 0) = some (.sh (.str h0)) := ixS (i := 0) rfl
    have i1 : ixF (.lst ([h0, x, y].map D.str)) (.int 1) = some (.sh (.str x)) := ixS (i := 1) rfl
    have i2 : ixF (.lst ([h0, x, y].map D.str)) (.int 2) = some (.sh (.str y)) := ixS (i := 2) rfl
    have evf' : decide ([h0, x, y] = [freshS]) = false := decide_eq_false fun z => by simp at z
    rw [evf'] at evf
    have l1 : (((3 : Nat) : Int) == 2) = false := by decide
    have l2 : (((3 : Nat) : Int) == 3) = true := by decide
    have l3 : ((x.length : Int) == 1) = decide (x.length = 1) := beqI x.length 1
    have l4 : ((y.length : Int) == 1) = decide (y.length = 1) := beqI y.length 1
    have e1 : wsB [h0, x, y] = ((h0 == hearS) && (letS x && numB 0 3 (conv y))) := by
      show (decide (h0 = hearS) && _) = _
      by_cases q : h0 = hearS
      · subst q; simp
      · simp [q]
    simp only [List.map_cons, List.map_nil] at *
    cases q3 : (h0 == hearS) with
    | false => cases q2 : (h0 == tellS) <;> simp only [bodyFn, Ow.back, mSeq, mIf, M.bind, M.ret, M.no, slotM, mName, mMove, mKid, O.kid, mBin, ofOpt, ofOptB, ofG, mAsg, gM, gSet, gPut, frz, mRet, mExpr, mTst, mTru, mNotB, mAnd, mOr, mAndV, mOrV, mNotV, mNmTru, mLenNm, mCB, c1, mCons, mUn, mLst, mTup, mPart, mSl, O.er, O.ers, O.asB, addF, addI, subI, mulF, mulI, modI, fdivI, powI, ltI, leI, gtI, geI, ii0, iiF, eqF, neF, intF_int, intF_bl, D.asI, lenF, mNeNil, O.neNil, mKidPop, O.kidPop, isNF, notNF, D.isN, mNeg, mConsV, mConsL, mConsW, mCall, mCallK, takeA, putA, mCallP, mCallPK, peekA, List.map_cons, List.map_nil, List.cons_append, List.nil_append, List.replicate, List.getElem?_cons_zero, List.getElem?_cons_succ, List.getElem?_nil, List.set_cons_zero, List.set_cons_succ, List.set_nil, List.length_cons, List.length_nil, List.length_set, Option.map_some, Option.map_none, Option.bind_some, Option.bind_none, Nat.reduceAdd, Nat.reduceSub, Nat.reduceLT, Nat.reduceLeDiff, Nat.lt_add_one, if_true, if_false, reduceIte, Bool.false_eq_true, decide_true, decide_false, Bool.and_true, Bool.true_and, Bool.and_false, Bool.false_and, Bool.not_true, Bool.not_false, List.range_succ, List.range_zero, List.mem_cons, List.not_mem_nil, or_false, or_true, true_or, false_or, List.getD_cons_zero, List.getD_cons_succ, List.map_append, Nat.one_ne_zero, Nat.reduceEqDiff, reduceCtorEq, eq_self,ew, ef, evf, es, es3, e1, i0, o0.eqb, eb_tell, eb_hear, eqv_str, q2, q3, len_lst, eqb_int, eqv_int, l1, l2]
    | true =>
      have hh : h0 = hearS := beq_iff_eq.mp q3
      subst hh
      by_cases q4 : x.length = 1
      · cases q5 : letS x with
        | false => simp only [bodyFn, Ow.back, mSeq, mIf, M.bind, M.ret, M.no, slotM, mName, mMove, mKid, O.kid, mBin, ofOpt, ofOptB, ofG, mAsg, gM, gSet, gPut, frz, mRet, mExpr, mTst, mTru, mNotB, mAnd, mOr, mAndV, mOrV, mNotV, mNmTru, mLenNm, mCB, c1, mCons, mUn, mLst, mTup, mPart, mSl, O.er, O.ers, O.asB, addF, addI, subI, mulF, mulI, modI, fdivI, powI, ltI, leI, gtI, geI, ii0, iiF, eqF, neF, intF_int, intF_bl, D.asI, lenF, mNeNil, O.neNil, mKidPop, O.kidPop, isNF, notNF, D.isN, mNeg, mConsV, mConsL, mConsW, mCall, mCallK, takeA, putA, mCallP, mCallPK, peekA, List.map_cons, List.map_nil, List.cons_append, List.nil_append, List.replicate, List.getElem?_cons_zero, List.getElem?_cons_succ, List.getElem?_nil, List.set_cons_zero, List.set_cons_succ, List.set_nil, List.length_cons, List.length_nil, List.length_set, Option.map_some, Option.map_none, Option.bind_some, Option.bind_none, Nat.reduceAdd, Nat.reduceSub, Nat.reduceLT, Nat.reduceLeDiff, Nat.lt_add_one, if_true, if_false, reduceIte, Bool.false_eq_true, decide_true, decide_false, Bool.and_true, Bool.true_and, Bool.and_false, Bool.false_and, Bool.not_true, Bool.not_false, List.range_succ, List.range_zero, List.mem_cons, List.not_mem_nil, or_false, or_true, true_or, false_or, List.getD_cons_zero, List.getD_cons_succ, List.map_append, Nat.one_ne_zero, Nat.reduceEqDiff, reduceCtorEq, eq_self,ew, ef, evf, es, es3, e1, i0, i1, o0.eqb, eb_tell, eb_hear, eqv_str, ne_ht, q3, len_lst, lenI ox hn, eqb_int, eqv_int, l1, l2, l3, decide_eq_true q4, notL q4, q5]
        | true =>
          have ex : conv x = .str x := by
            rcases conv_cases x with ⟨i, e, z⟩ | ⟨e, _⟩
            · rw [num_let z] at q5; cases q5
            · exact e
          have eh : conv hearS = .str hearS := conv_none nv_hear
          by_cases q6 : y.length = 1
          · cases q7 : numB 0 3 (conv y) with
            | false => simp only [bodyFn, Ow.back, mSeq, mIf, M.bind, M.ret, M.no, slotM, mName, mMove, mKid, O.kid, mBin, ofOpt, ofOptB, ofG, mAsg, gM, gSet, gPut, frz, mRet, mExpr, mTst, mTru, mNotB, mAnd, mOr, mAndV, mOrV, mNotV, mNmTru, mLenNm, mCB, c1, mCons, mUn, mLst, mTup, mPart, mSl, O.er, O.ers, O.asB, addF, addI, subI, mulF, mulI, modI, fdivI, powI, ltI, leI, gtI, geI, ii0, iiF, eqF, neF, intF_int, intF_bl, D.asI, lenF, mNeNil, O.neNil, mKidPop, O.kidPop, isNF, notNF, D.isN, mNeg, mConsV, mConsL, mConsW, mCall, mCallK, takeA, putA, mCallP, mCallPK, peekA, List.map_cons, List.map_nil, List.cons_append, List.nil_append, List.replicate, List.getElem?_cons_zero, List.getElem?_cons_succ, List.getElem?_nil, List.set_cons_zero, List.set_cons_succ, List.set_nil, List.length_cons, List.length_nil, List.length_set, Option.map_some, Option.map_none, Option.bind_some, Option.bind_none, Nat.reduceAdd, Nat.reduceSub, Nat.reduceLT, Nat.reduceLeDiff, Nat.lt_add_one, if_true, if_false, reduceIte, Bool.false_eq_true, decide_true, decide_false, Bool.and_true, Bool.true_and, Bool.and_false, Bool.false_and, Bool.not_true, Bool.not_false, List.range_succ, List.range_zero, List.mem_cons, List.not_mem_nil, or_false, or_true, true_or, false_or, List.getD_cons_zero, List.getD_cons_succ, List.map_append, Nat.one_ne_zero, Nat.reduceEqDiff, reduceCtorEq, eq_self,ew, ef, evf, es, es3, e1, i0, i1, i2, o0.eqb, eb_tell, eb_hear, eqv_str, ne_ht, q3, len_lst, lenI ox hn, lenI oy hn, eqb_int, eqv_int, l1, l2, l3, l4, decide_eq_true q4, decide_eq_true q6, notL q4, q5, in3 q6, q7]
            | true =>
              obtain ⟨_, k, q8⟩ := num3_len q7
              have ey : conv y = .int k := conv_some q8
              simp only [bodyFn, Ow.back, mSeq, mIf, M.bind, M.ret, M.no, slotM, mName, mMove, mKid, O.kid, mBin, ofOpt, ofOptB, ofG, mAsg, gM, gSet, gPut, frz, mRet, mExpr, mTst, mTru, mNotB, mAnd, mOr, mAndV, mOrV, mNotV, mNmTru, mLenNm, mCB, c1, mCons, mUn, mLst, mTup, mPart, mSl, O.er, O.ers, O.asB, addF, addI, subI, mulF, mulI, modI, fdivI, powI, ltI, leI, gtI, geI, ii0, iiF, eqF, neF, intF_int, intF_bl, D.asI, lenF, mNeNil, O.neNil, mKidPop, O.kidPop, isNF, notNF, D.isN, mNeg, mConsV, mConsL, mConsW, mCall, mCallK, takeA, putA, mCallP, mCallPK, peekA, List.map_cons, List.map_nil, List.cons_append, List.nil_append, List.replicate, List.getElem?_cons_zero, List.getElem?_cons_succ, List.getElem?_nil, List.set_cons_zero, List.set_cons_succ, List.set_nil, List.length_cons, List.length_nil, List.length_set, Option.map_some, Option.map_none, Option.bind_some, Option.bind_none, Nat.reduceAdd, Nat.reduceSub, Nat.reduceLT, Nat.reduceLeDiff, Nat.lt_add_one, if_true, if_false, reduceIte, Bool.false_eq_true, decide_true, decide_false, Bool.and_true, Bool.true_and, Bool.and_false, Bool.false_and, Bool.not_true, Bool.not_false, List.range_succ, List.range_zero, List.mem_cons, List.not_mem_nil, or_false, or_true, true_or, false_or, List.getD_cons_zero, List.getD_cons_succ, List.map_append, Nat.one_ne_zero, Nat.reduceEqDiff, reduceCtorEq, eq_self,ew, ef, evf, es, es3, e1, i0, i1, i2, o0.eqb, eb_tell, eb_hear, eqv_str, ne_ht, q3, len_lst, lenI ox hn, lenI oy hn, eqb_int, eqv_int, l1, l2, l3, l4, decide_eq_true q4, decide_eq_true q6, notL q4, q5, in3 q6, q7, intNum q8, ex, eh]
              rw [ey]
          · have q7 : numB 0 3 (conv y) = false := by
              cases z : numB 0 3 (conv y) with
              | false => rfl
              | true => exact absurd (num3_len z).1 q6
            simp only [bodyFn, Ow.back, mSeq, mIf, M.bind, M.ret, M.no, slotM, mName, mMove, mKid, O.kid, mBin, ofOpt, ofOptB, ofG, mAsg, gM, gSet, gPut, frz, mRet, mExpr, mTst, mTru, mNotB, mAnd, mOr, mAndV, mOrV, mNotV, mNmTru, mLenNm, mCB, c1, mCons, mUn, mLst, mTup, mPart, mSl, O.er, O.ers, O.asB, addF, addI, subI, mulF, mulI, modI, fdivI, powI, ltI, leI, gtI, geI, ii0, iiF, eqF, neF, intF_int, intF_bl, D.asI, lenF, mNeNil, O.neNil, mKidPop, O.kidPop, isNF, notNF, D.isN, mNeg, mConsV, mConsL, mConsW, mCall, mCallK, takeA, putA, mCallP, mCallPK, peekA, List.map_cons, List.map_nil, List.cons_append, List.nil_append, List.replicate, List.getElem?_cons_zero, List.getElem?_cons_succ, List.getElem?_nil, List.set_cons_zero, List.set_cons_succ, List.set_nil, List.length_cons, List.length_nil, List.length_set, Option.map_some, Option.map_none, Option.bind_some, Option.bind_none, Nat.reduceAdd, Nat.reduceSub, Nat.reduceLT, Nat.reduceLeDiff, Nat.lt_add_one, if_true, if_false, reduceIte, Bool.false_eq_true, decide_true, decide_false, Bool.and_true, Bool.true_and, Bool.and_false, Bool.false_and, Bool.not_true, Bool.not_false, List.range_succ, List.range_zero, List.mem_cons, List.not_mem_nil, or_false, or_true, true_or, false_or, List.getD_cons_zero, List.getD_cons_succ, List.map_append, Nat.one_ne_zero, Nat.reduceEqDiff, reduceCtorEq, eq_self,ew, ef, evf, es, es3, e1, i0, i1, i2, o0.eqb, eb_tell, eb_hear, eqv_str, ne_ht, q3, len_lst, lenI ox hn, lenI oy hn, eqb_int, eqv_int, l1, l2, l3, l4, decide_eq_true q4, decide_eq_false q6, notL q4, q5, q7]
      · have q5 : letS x = false := by
          cases z : letS x with
          | false => rfl
          | true => exact absurd (letS_len z) q4
        simp only [bodyFn, Ow.back, mSeq, mIf, M.bind, M.ret, M.no, slotM, mName, mMove, mKid, O.kid, mBin, ofOpt, ofOptB, ofG, mAsg, gM, gSet, gPut, frz, mRet, mExpr, mTst, mTru, mNotB, mAnd, mOr, mAndV, mOrV, mNotV, mNmTru, mLenNm, mCB, c1, mCons, mUn, mLst, mTup, mPart, mSl, O.er, O.ers, O.asB, addF, addI, subI, mulF, mulI, modI, fdivI, powI, ltI, leI, gtI, geI, ii0, iiF, eqF, neF, intF_int, intF_bl, D.asI, lenF, mNeNil, O.neNil, mKidPop, O.kidPop, isNF, notNF, D.isN, mNeg, mConsV, mConsL, mConsW, mCall, mCallK, takeA, putA, mCallP, mCallPK, peekA, List.map_cons, List.map_nil, List.cons_append, List.nil_append, List.replicate, List.getElem?_cons_zero, List.getElem?_cons_succ, List.getElem?_nil, List.set_cons_zero, List.set_cons_succ, List.set_nil, List.length_cons, List.length_nil, List.length_set, Option.map_some, Option.map_none, Option.bind_some, Option.bind_none, Nat.reduceAdd, Nat.reduceSub, Nat.reduceLT, Nat.reduceLeDiff, Nat.lt_add_one, if_true, if_false, reduceIte, Bool.false_eq_true, decide_true, decide_false, Bool.and_true, Bool.true_and, Bool.and_false, Bool.false_and, Bool.not_true, Bool.not_false, List.range_succ, List.range_zero, List.mem_cons, List.not_mem_nil, or_false, or_true, true_or, false_or, List.getD_cons_zero, List.getD_cons_succ, List.map_append, Nat.one_ne_zero, Nat.reduceEqDiff, reduceCtorEq, eq_self,ew, ef, evf, es, es3, e1, i0, i1, o0.eqb, eb_tell, eb_hear, eqv_str, ne_ht, q3, len_lst, lenI ox hn, eqb_int, eqv_int, l1, l2, l3, decide_eq_false q4, q5]
  | h0 :: x :: y :: z :: r, _, hok, ew, evf =>
    have o0 := hok h0 List.mem_cons_self
    have i0 : ixF (.lst ((h0 :: x :: y :: z :: r).map D.str)) (.int 0) = some (.sh (.str h0)) := ixS (i := 0) rfl
    have evf' : decide (h0 :: x :: y :: z :: r = [freshS]) = false := decide_eq_false fun z => by simp at z
    rw [evf'] at evf
    have ll : (D.lst ((h0 :: x :: y :: z :: r).map D.str)).len = some (r.length + 4) := by
      show some ((h0 :: x :: y :: z :: r).map D.str).length = _
      rw [List.length_map]; rfl
    have l1 : (((r.length + 4 : Nat) : Int) == 2) = false := by rw [beq_eq_false_iff_ne]; omega
    have l2 : (((r.length + 4 : Nat) : Int) == 3) = false := by rw [beq_eq_false_iff_ne]; omega
    have e1 : wsB (h0 :: x :: y :: z :: r) = false := rfl
    generalize (h0 :: x :: y :: z :: r).map D.str = ds at *
    cases q2 : (h0 == tellS) <;> cases q3 : (h0 == hearS) <;> simp only [bodyFn, Ow.back, mSeq, mIf, M.bind, M.ret, M.no, slotM, mName, mMove, mKid, O.kid, mBin, ofOpt, ofOptB, ofG, mAsg, gM, gSet, gPut, frz, mRet, mExpr, mTst, mTru, mNotB, mAnd, mOr, mAndV, mOrV, mNotV, mNmTru, mLenNm, mCB, c1, mCons, mUn, mLst, mTup, mPart, mSl, O.er, O.ers, O.asB, addF, addI, subI, mulF, mulI, modI, fdivI, powI, ltI, leI, gtI, geI, ii0, iiF, eqF, neF, intF_int, intF_bl, D.asI, lenF, mNeNil, O.neNil, mKidPop, O.kidPop, isNF, notNF, D.isN, mNeg, mConsV, mConsL, mConsW, mCall, mCallK, takeA, putA, mCallP, mCallPK, peekA, List.map_cons, List.map_nil, List.cons_append, List.nil_append, List.replicate, List.getElem?_cons_zero, List.getElem?_cons_succ, List.getElem?_nil, List.set_cons_zero, List.set_cons_succ, List.set_nil, List.length_cons, List.length_nil, List.length_set, Option.map_some, Option.map_none, Option.bind_some, Option.bind_none, Nat.reduceAdd, Nat.reduceSub, Nat.reduceLT, Nat.reduceLeDiff, Nat.lt_add_one, if_true, if_false, reduceIte, Bool.false_eq_true, decide_true, decide_false, Bool.and_true, Bool.true_and, Bool.and_false, Bool.false_and, Bool.not_true, Bool.not_false, List.range_succ, List.range_zero, List.mem_cons, List.not_mem_nil, or_false, or_true, true_or, false_or, List.getD_cons_zero, List.getD_cons_succ, List.map_append, Nat.one_ne_zero, Nat.reduceEqDiff, reduceCtorEq, eq_self,ew, ef, evf, es, e1, i0, ll, o0.eqb, eb_tell, eb_hear, eqv_str, q2, q3, eqb_int, eqv_int, l1, l2]
end L80

set_option Elab.async false
set_option linter.all false
set_option maxRecDepth 100000
set_option maxHeartbeats 4000000
namespace L80
open PySem PySem.Spec PyProof.Rows L2 Ow
theorem enD_cons (c : Int) (x : D) (xs : List D) : enD c (x :: xs) = .tup [.int c, x] :: enD (c + 1) xs := by
  unfold enD
  rw [List.length_cons, List.range_succ_eq_map, List.zipWith_cons_cons, List.zipWith_map_left]
  congr 1
  · simp
  · congr 1
    funext i d
    have : c + ((i.succ : Nat) : Int) = c + 1 + (i : Int) := by
      rw [Nat.succ_eq_add_one]; omega
    rw [this]
theorem enD_nil (c : Int) : enD c [] = [] := rfl
theorem lineD_cases (l : Str) : lineD l = .non ∨ ∃ xs, lineD l = .tup xs := by
  unfold lineD pd
  split
  · exact .inr ⟨_, rfl⟩
  · exact .inl rfl
/-- notes line by line, to the first line that is none -/
def scan : Int → List Str → List D → List D × Option Int
  | _, [], acc => (acc, none)
  | k, l :: ls, acc => match lineD l with
    | .tup xs => scan (k + 1) ls (acc ++ [.tup xs])
    | _ => (acc, some k)
theorem isN_non : D.non.isN = some true := rfl
theorem isN_tup (xs : List D) : (D.tup xs).isN = some false := rfl
abbrev lrB (c : Cs) : M Fl := mSeq (mAsg (mCall (fun os => if os.length = 1 then c.deed_of os else .no) (mConsV (mName 4) (M.ret []))) (gSet 5 true)) (mSeq (mIf (mTst (mUn isNF (mName 5))) (mRet (mTup (mCons (mMove 1) (mCons (mName 3) (M.ret []))))) (M.ret .nx)) (mExpr (mAppend 1 (mName 5))))
theorem lr_for (c : Cs) {n : Nat} (hn : n ≤ 100000) (hc : ∀ l, Ok n l → c.deed_of [.sh (.str l)] = .ok (.sh (lineD l)) [none]) : ∀ (ls : List Str) (k : Int) (acc : List D) (x0 x2 x3 x4 x5 : Option O), (∀ l ∈ ls, Ok n l) → acc.length + ls.length ≤ 1000000 →
    ∃ y3 y4 y5, mFor (gTupF [(3, true), (4, true)]) (lrB c) (enD k (ls.map D.str)) [x0, some (.lst (acc.map O.sh)), x2, x3, x4, x5] = (match scan k ls acc with
      | (acc', some k') => .ok (.rt (.tup [.lst (acc'.map O.sh), .sh (.int k')])) [x0, none, x2, y3, y4, y5]
      | (acc', none) => .ok .nx [x0, some (.lst (acc'.map O.sh)), x2, y3, y4, y5])
  | [], k, acc, x0, x2, x3, x4, x5, _, _ => ⟨x3, x4, x5, rfl⟩
  | l :: ls, k, acc, x0, x2, x3, x4, x5, hl, hlen => by
    rw [List.map_cons, enD_cons]
    have h1 : gTupF [(3, true), (4, true)] (.sh (.tup [.int k, .str l])) [x0, some (.lst (acc.map O.sh)), x2, x3, x4, x5] = some [x0, some (.lst (acc.map O.sh)), x2, some (.sh (.int k)), some (.sh (.str l)), x5] := rfl
    have hd := hc l (hl l List.mem_cons_self)
    have s1 : mAsg (mCall (fun os => if os.length = 1 then c.deed_of os else .no) (mConsV (mName 4) (M.ret []))) (gSet 5 true) [x0, some (.lst (acc.map O.sh)), x2, some (.sh (.int k)), some (.sh (.str l)), x5] = .ok .nx [x0, some (.lst (acc.map O.sh)), x2, some (.sh (.int k)), some (.sh (.str l)), some (.sh (lineD l))] :=
      asg_ok (call1 (e1 := [x0, some (.lst (acc.map O.sh)), x2, some (.sh (.int k)), some (.sh (.str l)), x5]) (o := .sh (.str l)) rfl hd) rfl
    have es2 : (2 : Nat) ≤ sizeLine := by decide
    rcases lineD_cases l with e | ⟨xs, e⟩
    · have hs : scan k (l :: ls) acc = (acc, some k) := by unfold scan; rw [e]
      rw [hs]
      refine ⟨some (.sh (.int k)), some (.sh (.str l)), some (.sh (lineD l)), ?_⟩
      have s2 : lrB c [x0, some (.lst (acc.map O.sh)), x2, some (.sh (.int k)), some (.sh (.str l)), x5] = .ok (.rt (.tup [.lst (acc.map O.sh), .sh (.int k)])) [x0, none, x2, some (.sh (.int k)), some (.sh (.str l)), some (.sh (lineD l))] := (seq_nx s1).trans (by rw [e]; simp only [bodyFn, Ow.back, mSeq, mIf, M.bind, M.ret, M.no, slotM, mName, mMove, mKid, O.kid, mBin, ofOpt, ofOptB, ofG, mAsg, gM, gSet, gPut, frz, mRet, mExpr, mTst, mTru, mNotB, mAnd, mOr, mAndV, mOrV, mNotV, mNmTru, mLenNm, mCB, c1, mCons, mUn, mLst, mTup, mPart, mSl, O.er, O.ers, O.asB, addF, addI, subI, mulF, mulI, modI, fdivI, powI, ltI, leI, gtI, geI, ii0, iiF, eqF, neF, intF_int, intF_bl, D.asI, lenF, mNeNil, O.neNil, mKidPop, O.kidPop, isNF, notNF, D.isN, mNeg, mConsV, mConsL, mConsW, mCall, mCallK, takeA, putA, mCallP, mCallPK, peekA, List.map_cons, List.map_nil, List.cons_append, List.nil_append, List.replicate, List.getElem?_cons_zero, List.getElem?_cons_succ, List.getElem?_nil, List.set_cons_zero, List.set_cons_succ, List.set_nil, List.length_cons, List.length_nil, List.length_set, Option.map_some, Option.map_none, Option.bind_some, Option.bind_none, Nat.reduceAdd, Nat.reduceSub, Nat.reduceLT, Nat.reduceLeDiff, Nat.lt_add_one, if_true, if_false, reduceIte, Bool.false_eq_true, decide_true, decide_false, Bool.and_true, Bool.true_and, Bool.and_false, Bool.false_and, Bool.not_true, Bool.not_false, List.range_succ, List.range_zero, List.mem_cons, List.not_mem_nil, or_false, or_true, true_or, false_or, List.getD_cons_zero, List.getD_cons_succ, List.map_append, Nat.one_ne_zero, Nat.reduceEqDiff, reduceCtorEq, eq_self,isN_non, es2])
      exact for_rt h1 s2
    · have hs : scan k (l :: ls) acc = scan (k + 1) ls (acc ++ [.tup xs]) := by
        conv => lhs; unfold scan
        rw [e]
      rw [hs]
      have hlt : (acc.map O.sh).length < sizeLine := by rw [List.length_map, sizeLine_v]; simp at hlen; omega
      obtain ⟨y3, y4, y5, ih⟩ := lr_for c hn hc ls (k + 1) (acc ++ [.tup xs]) x0 x2 (some (.sh (.int k))) (some (.sh (.str l))) (some (.sh (.tup xs))) (fun l' hl' => hl l' (List.mem_cons_of_mem _ hl')) (by simp at hlen ⊢; omega)
      refine ⟨y3, y4, y5, ?_⟩
      have s2 : lrB c [x0, some (.lst (acc.map O.sh)), x2, some (.sh (.int k)), some (.sh (.str l)), x5] = .ok .nx [x0, some (.lst ((acc ++ [D.tup xs]).map O.sh)), x2, some (.sh (.int k)), some (.sh (.str l)), some (.sh (.tup xs))] := by
        refine (seq_nx s1).trans ?_
        rw [e]
        unfold mAppend
        simp only [bodyFn, Ow.back, mSeq, mIf, M.bind, M.ret, M.no, slotM, mName, mMove, mKid, O.kid, mBin, ofOpt, ofOptB, ofG, mAsg, gM, gSet, gPut, frz, mRet, mExpr, mTst, mTru, mNotB, mAnd, mOr, mAndV, mOrV, mNotV, mNmTru, mLenNm, mCB, c1, mCons, mUn, mLst, mTup, mPart, mSl, O.er, O.ers, O.asB, addF, addI, subI, mulF, mulI, modI, fdivI, powI, ltI, leI, gtI, geI, ii0, iiF, eqF, neF, intF_int, intF_bl, D.asI, lenF, mNeNil, O.neNil, mKidPop, O.kidPop, isNF, notNF, D.isN, mNeg, mConsV, mConsL, mConsW, mCall, mCallK, takeA, putA, mCallP, mCallPK, peekA, List.map_cons, List.map_nil, List.cons_append, List.nil_append, List.replicate, List.getElem?_cons_zero, List.getElem?_cons_succ, List.getElem?_nil, List.set_cons_zero, List.set_cons_succ, List.set_nil, List.length_cons, List.length_nil, List.length_set, Option.map_some, Option.map_none, Option.bind_some, Option.bind_none, Nat.reduceAdd, Nat.reduceSub, Nat.reduceLT, Nat.reduceLeDiff, Nat.lt_add_one, if_true, if_false, reduceIte, Bool.false_eq_true, decide_true, decide_false, Bool.and_true, Bool.true_and, Bool.and_false, Bool.false_and, Bool.not_true, Bool.not_false, List.range_succ, List.range_zero, List.mem_cons, List.not_mem_nil, or_false, or_true, true_or, false_or, List.getD_cons_zero, List.getD_cons_succ, List.map_append, Nat.one_ne_zero, Nat.reduceEqDiff, reduceCtorEq, eq_self,isN_tup, O.asLst, hlt]
      rw [for_nx h1 s2]
      exact ih
/-- what lines_read tells -/
def lrO (text : Str) : List D × D := match scan 1 (parts 10 text).dropLast [] with
  | (acc, some k) => (acc, .int k)
  | (acc, none) => (acc, if (parts 10 text).getLast? = some ("" : Str) then .non else .int (parts 10 text).length)
theorem nlS : ("\n" : Str) = S [10] := by decide +kernel
theorem slF_last (ws : List Str) : slF (.lst (ws.map D.str)) none (some (-1)) = some (.lst ((ws.dropLast.map D.str).map O.sh)) := by
  show some (O.lst ((Ow.cutD (ws.map D.str) none (some (-1))).map O.sh)) = _
  have e : Ow.cutD (ws.map D.str) none (some (-1)) = ws.dropLast.map D.str := by
    unfold Ow.cutD
    have h1 : HT.sIx (ws.map D.str).length 0 none = 0 := rfl
    have h2 : HT.sIx (ws.map D.str).length (ws.map D.str).length (some (-1)) = ws.length - 1 := by
      rw [List.length_map]
      unfold HT.sIx
      simp
      try omega
    rw [h1, h2, List.drop_zero, List.dropLast_eq_take, List.map_take]
    simp
  rw [e]
theorem ix_last {ws : List Str} {w : Str} (h : ws.getLast? = some w) : ixF (.lst (ws.map D.str)) (.int (-1)) = some (.sh (.str w)) := by
  show (atI (ws.map D.str) (-1)).map O.sh = _
  have hne : ws ≠ [] := by rintro rfl; simp at h
  have hl : 0 < ws.length := List.length_pos_iff.mpr hne
  have h1 : ixN (ws.map D.str).length (-1) = some (ws.length - 1) := by
    rw [List.length_map]
    unfold ixN
    rw [if_neg (by omega)]
    rw [if_pos (by omega)]
    congr 1
    omega
  have h2 : (ws.map D.str)[ws.length - 1]? = some (.str w) := by
    rw [List.getElem?_map, ← List.getLast?_eq_getElem?, h]
    rfl
  rw [atI_of h1 h2]
  rfl
theorem strs_er (ws : List Str) : (O.lst ((ws.map D.str).map O.sh)).er = .lst (ws.map D.str) := by
  show D.lst (O.ers _) = _
  rw [O.ers_sh]
theorem fits1 : Builtin.SmallTypes.fitsIndex 1 = true := by decide +kernel
theorem lines_read_ok (c : Cs) {n : Nat} {text : Str} (h : Ok n text) (hn : n ≤ 100000) : b_lines_read (csUp (csUp (csUp c))) [.sh (.str text)] = .ok (.tup [.lst ((lrO text).1.map O.sh), .sh (lrO text).2]) [none] := by
  have hs : splitF text (.str ("\n" : Str)) = _ := splitF_ok' (c := 10) (by decide) nlS h hn
  have hok := parts_ok (c := 10) h
  have hne := parts_ne 10 text
  have hz : (O.lst ((parts 10 text).map fun z => O.sh (.str z))).er = .lst ((parts 10 text).map D.str) := by
    show D.lst (O.ers _) = _
    rw [O.ers_map, List.map_map]; rfl
  unfold b_lines_read m_lines_read
  have es0 : (0 : Nat) ≤ sizeLine := by decide
  have es2 : (2 : Nat) ≤ sizeLine := by decide
  have s1 : mAsg (mLst (M.ret [])) (gSet 1 false) [some (.sh (.str text)), none, none, none, none, none] = .ok .nx [some (.sh (.str text)), some (.lst []), none, none, none, none] := by simp only [bodyFn, Ow.back, mSeq, mIf, M.bind, M.ret, M.no, slotM, mName, mMove, mKid, O.kid, mBin, ofOpt, ofOptB, ofG, mAsg, gM, gSet, gPut, frz, mRet, mExpr, mTst, mTru, mNotB, mAnd, mOr, mAndV, mOrV, mNotV, mNmTru, mLenNm, mCB, c1, mCons, mUn, mLst, mTup, mPart, mSl, O.er, O.ers, O.asB, addF, addI, subI, mulF, mulI, modI, fdivI, powI, ltI, leI, gtI, geI, ii0, iiF, eqF, neF, intF_int, intF_bl, D.asI, lenF, mNeNil, O.neNil, mKidPop, O.kidPop, isNF, notNF, D.isN, mNeg, mConsV, mConsL, mConsW, mCall, mCallK, takeA, putA, mCallP, mCallPK, peekA, List.map_cons, List.map_nil, List.cons_append, List.nil_append, List.replicate, List.getElem?_cons_zero, List.getElem?_cons_succ, List.getElem?_nil, List.set_cons_zero, List.set_cons_succ, List.set_nil, List.length_cons, List.length_nil, List.length_set, Option.map_some, Option.map_none, Option.bind_some, Option.bind_none, Nat.reduceAdd, Nat.reduceSub, Nat.reduceLT, Nat.reduceLeDiff, Nat.lt_add_one, if_true, if_false, reduceIte, Bool.false_eq_true, decide_true, decide_false, Bool.and_true, Bool.true_and, Bool.and_false, Bool.false_and, Bool.not_true, Bool.not_false, List.range_succ, List.range_zero, List.mem_cons, List.not_mem_nil, or_false, or_true, true_or, false_or, List.getD_cons_zero, List.getD_cons_succ, List.map_append, Nat.one_ne_zero, Nat.reduceEqDiff, reduceCtorEq, eq_self,es0]
  have s2 : mIf (mNotB (mTru (mCB isiF (mCons (mName 0) (mCons (M.ret (.sh (tyD .str))) (M.ret [])))))) (mRet (mTup (mCons (mMove 1) (mCons (M.ret (.sh (.int 0))) (M.ret []))))) (M.ret .nx) [some (.sh (.str text)), some (.lst []), none, none, none, none] = .ok .nx [some (.sh (.str text)), some (.lst []), none, none, none, none] := by simp only [bodyFn, Ow.back, mSeq, mIf, M.bind, M.ret, M.no, slotM, mName, mMove, mKid, O.kid, mBin, ofOpt, ofOptB, ofG, mAsg, gM, gSet, gPut, frz, mRet, mExpr, mTst, mTru, mNotB, mAnd, mOr, mAndV, mOrV, mNotV, mNmTru, mLenNm, mCB, c1, mCons, mUn, mLst, mTup, mPart, mSl, O.er, O.ers, O.asB, addF, addI, subI, mulF, mulI, modI, fdivI, powI, ltI, leI, gtI, geI, ii0, iiF, eqF, neF, intF_int, intF_bl, D.asI, lenF, mNeNil, O.neNil, mKidPop, O.kidPop, isNF, notNF, D.isN, mNeg, mConsV, mConsL, mConsW, mCall, mCallK, takeA, putA, mCallP, mCallPK, peekA, List.map_cons, List.map_nil, List.cons_append, List.nil_append, List.replicate, List.getElem?_cons_zero, List.getElem?_cons_succ, List.getElem?_nil, List.set_cons_zero, List.set_cons_succ, List.set_nil, List.length_cons, List.length_nil, List.length_set, Option.map_some, Option.map_none, Option.bind_some, Option.bind_none, Nat.reduceAdd, Nat.reduceSub, Nat.reduceLT, Nat.reduceLeDiff, Nat.lt_add_one, if_true, if_false, reduceIte, Bool.false_eq_true, decide_true, decide_false, Bool.and_true, Bool.true_and, Bool.and_false, Bool.false_and, Bool.not_true, Bool.not_false, List.range_succ, List.range_zero, List.mem_cons, List.not_mem_nil, or_false, or_true, true_or, false_or, List.getD_cons_zero, List.getD_cons_succ, List.map_append, Nat.one_ne_zero, Nat.reduceEqDiff, reduceCtorEq, eq_self,isi_str, ty_str, sub_ss, tru_bl]
  have s3 : mAsg (mStr1 splitF (mName 0) (M.ret (.sh (.str ("\n" : Str))))) (gSet 2 true) [some (.sh (.str text)), some (.lst []), none, none, none, none] = .ok .nx [some (.sh (.str text)), some (.lst []), some (.sh (.lst ((parts 10 text).map D.str))), none, none, none] :=
    asg_ok (str1_ok (s := text) rfl rfl rfl hs) (by show some [some (O.sh (.str text)), some (.lst []), some (frz true (O.lst ((parts 10 text).map fun z => O.sh (.str z)))), none, none, none] = _; unfold frz; rw [if_pos rfl, hz])
  obtain ⟨y3, y4, y5, hf⟩ := lr_for (csUp (csUp (csUp c))) hn (fun l hl => deed_of_ok c hl hn) (parts 10 text).dropLast 1 [] (some (.sh (.str text))) (some (.sh (.lst ((parts 10 text).map D.str)))) none none none (fun l hl => hok.2 l (List.dropLast_subset _ hl)) (by have := hok.1; simp; omega)
  have hi : mEn2 (mSl (mName 2) (M.ret none) (mPart (mUn mNeg (M.ret (.sh (.int 1)))))) (M.ret (.sh (.int 1))) [some (.sh (.str text)), some (.lst []), some (.sh (.lst ((parts 10 text).map D.str))), none, none, none] = .ok (enD 1 ((parts 10 text).dropLast.map D.str)) [some (.sh (.str text)), some (.lst []), some (.sh (.lst ((parts 10 text).map D.str))), none, none, none] := by
    have e1 : mSl (mName 2) (M.ret none) (mPart (mUn mNeg (M.ret (.sh (.int 1))))) [some (.sh (.str text)), some (.lst []), some (.sh (.lst ((parts 10 text).map D.str))), none, none, none] = .ok (.lst (((parts 10 text).dropLast.map D.str).map O.sh)) [some (.sh (.str text)), some (.lst []), some (.sh (.lst ((parts 10 text).map D.str))), none, none, none] := by
      have := slF_last (parts 10 text)
      simp only [bodyFn, Ow.back, mSeq, mIf, M.bind, M.ret, M.no, slotM, mName, mMove, mKid, O.kid, mBin, ofOpt, ofOptB, ofG, mAsg, gM, gSet, gPut, frz, mRet, mExpr, mTst, mTru, mNotB, mAnd, mOr, mAndV, mOrV, mNotV, mNmTru, mLenNm, mCB, c1, mCons, mUn, mLst, mTup, mPart, mSl, O.er, O.ers, O.asB, addF, addI, subI, mulF, mulI, modI, fdivI, powI, ltI, leI, gtI, geI, ii0, iiF, eqF, neF, intF_int, intF_bl, D.asI, lenF, mNeNil, O.neNil, mKidPop, O.kidPop, isNF, notNF, D.isN, mNeg, mConsV, mConsL, mConsW, mCall, mCallK, takeA, putA, mCallP, mCallPK, peekA, List.map_cons, List.map_nil, List.cons_append, List.nil_append, List.replicate, List.getElem?_cons_zero, List.getElem?_cons_succ, List.getElem?_nil, List.set_cons_zero, List.set_cons_succ, List.set_nil, List.length_cons, List.length_nil, List.length_set, Option.map_some, Option.map_none, Option.bind_some, Option.bind_none, Nat.reduceAdd, Nat.reduceSub, Nat.reduceLT, Nat.reduceLeDiff, Nat.lt_add_one, if_true, if_false, reduceIte, Bool.false_eq_true, decide_true, decide_false, Bool.and_true, Bool.true_and, Bool.and_false, Bool.false_and, Bool.not_true, Bool.not_false, List.range_succ, List.range_zero, List.mem_cons, List.not_mem_nil, or_false, or_true, true_or, false_or, List.getD_cons_zero, List.getD_cons_succ, List.map_append, Nat.one_ne_zero, Nat.reduceEqDiff, reduceCtorEq, eq_self,this]
    unfold mEn2
    rw [bind_ok e1, bind_ok nil_ok, strs_er]
    show ofG (if Builtin.SmallTypes.fitsIndex 1 = true then (some ((parts 10 text).dropLast.map D.str)).map (enD 1) else none) _ = _
    rw [if_pos fits1]
    rfl
  have eQ : (lrO text) = (match scan 1 (parts 10 text).dropLast [] with
    | (acc, some k) => (acc, .int k)
    | (acc, none) => (acc, if (parts 10 text).getLast? = some ("" : Str) then .non else .int (parts 10 text).length)) := rfl
  cases hsc : scan 1 (parts 10 text).dropLast [] with
  | mk acc ok =>
    rw [hsc] at hf eQ
    cases ok with
    | some k =>
      rw [eQ]
      exact fn_rt ((seq_nx s1).trans ((seq_nx s2).trans ((seq_nx s3).trans (seq_rt ((bind_ok hi).trans hf)))))
    | none =>
      obtain ⟨w, hw⟩ : ∃ w, (parts 10 text).getLast? = some w := by
        cases q : (parts 10 text).getLast? with
        | none => exact absurd (List.getLast?_eq_none_iff.mp q) hne
        | some w => exact ⟨w, rfl⟩
      have ow : Ok n w := hok.2 w (List.mem_of_getLast? hw)
      have hx := ix_last hw
      have e0 : (D.str ("" : Str)).eqb = true := (okS ("" : Str) (by decide +kernel)).eqb
      rw [eQ]
      by_cases q : w = ("" : Str)
      · subst q
        have e3 : (if (parts 10 text).getLast? = some ("" : Str) then D.non else .int (parts 10 text).length) = .non := if_pos hw
        simp only [e3]
        refine fn_rt (e := [some (.sh (.str text)), none, some (.sh (.lst ((parts 10 text).map D.str))), y3, y4, y5]) ((seq_nx s1).trans ((seq_nx s2).trans ((seq_nx s3).trans ((seq_nx ((bind_ok hi).trans hf)).trans ?_))))
        simp only [bodyFn, Ow.back, mSeq, mIf, M.bind, M.ret, M.no, slotM, mName, mMove, mKid, O.kid, mBin, ofOpt, ofOptB, ofG, mAsg, gM, gSet, gPut, frz, mRet, mExpr, mTst, mTru, mNotB, mAnd, mOr, mAndV, mOrV, mNotV, mNmTru, mLenNm, mCB, c1, mCons, mUn, mLst, mTup, mPart, mSl, O.er, O.ers, O.asB, addF, addI, subI, mulF, mulI, modI, fdivI, powI, ltI, leI, gtI, geI, ii0, iiF, eqF, neF, intF_int, intF_bl, D.asI, lenF, mNeNil, O.neNil, mKidPop, O.kidPop, isNF, notNF, D.isN, mNeg, mConsV, mConsL, mConsW, mCall, mCallK, takeA, putA, mCallP, mCallPK, peekA, List.map_cons, List.map_nil, List.cons_append, List.nil_append, List.replicate, List.getElem?_cons_zero, List.getElem?_cons_succ, List.getElem?_nil, List.set_cons_zero, List.set_cons_succ, List.set_nil, List.length_cons, List.length_nil, List.length_set, Option.map_some, Option.map_none, Option.bind_some, Option.bind_none, Nat.reduceAdd, Nat.reduceSub, Nat.reduceLT, Nat.reduceLeDiff, Nat.lt_add_one, if_true, if_false, reduceIte, Bool.false_eq_true, decide_true, decide_false, Bool.and_true, Bool.true_and, Bool.and_false, Bool.false_and, Bool.not_true, Bool.not_false, List.range_succ, List.range_zero, List.mem_cons, List.not_mem_nil, or_false, or_true, true_or, false_or, List.getD_cons_zero, List.getD_cons_succ, List.map_append, Nat.one_ne_zero, Nat.reduceEqDiff, reduceCtorEq, eq_self,hx, e0, eqv_str, beq_self_eq_true, es2]
      · have e3 : (if (parts 10 text).getLast? = some ("" : Str) then D.non else .int (parts 10 text).length) = .int (parts 10 text).length := if_neg (by rw [hw]; intro z; exact q (Option.some.inj z))
        simp only [e3]
        have hb : (w == ("" : Str)) = false := beq_eq_false_iff_ne.mpr q
        refine fn_rt (e := [some (.sh (.str text)), none, some (.sh (.lst ((parts 10 text).map D.str))), y3, y4, y5]) ((seq_nx s1).trans ((seq_nx s2).trans ((seq_nx s3).trans ((seq_nx ((bind_ok hi).trans hf)).trans ?_))))
        simp only [bodyFn, Ow.back, mSeq, mIf, M.bind, M.ret, M.no, slotM, mName, mMove, mKid, O.kid, mBin, ofOpt, ofOptB, ofG, mAsg, gM, gSet, gPut, frz, mRet, mExpr, mTst, mTru, mNotB, mAnd, mOr, mAndV, mOrV, mNotV, mNmTru, mLenNm, mCB, c1, mCons, mUn, mLst, mTup, mPart, mSl, O.er, O.ers, O.asB, addF, addI, subI, mulF, mulI, modI, fdivI, powI, ltI, leI, gtI, geI, ii0, iiF, eqF, neF, intF_int, intF_bl, D.asI, lenF, mNeNil, O.neNil, mKidPop, O.kidPop, isNF, notNF, D.isN, mNeg, mConsV, mConsL, mConsW, mCall, mCallK, takeA, putA, mCallP, mCallPK, peekA, List.map_cons, List.map_nil, List.cons_append, List.nil_append, List.replicate, List.getElem?_cons_zero, List.getElem?_cons_succ, List.getElem?_nil, List.set_cons_zero, List.set_cons_succ, List.set_nil, List.length_cons, List.length_nil, List.length_set, Option.map_some, Option.map_none, Option.bind_some, Option.bind_none, Nat.reduceAdd, Nat.reduceSub, Nat.reduceLT, Nat.reduceLeDiff, Nat.lt_add_one, if_true, if_false, reduceIte, Bool.false_eq_true, decide_true, decide_false, Bool.and_true, Bool.true_and, Bool.and_false, Bool.false_and, Bool.not_true, Bool.not_false, List.range_succ, List.range_zero, List.mem_cons, List.not_mem_nil, or_false, or_true, true_or, false_or, List.getD_cons_zero, List.getD_cons_succ, List.map_append, Nat.one_ne_zero, Nat.reduceEqDiff, reduceCtorEq, eq_self,hx, e0, ow.eqb, eqv_str, hb, es2, len_lst, List.length_map]
end L80

set_option Elab.async false
set_option linter.all false
set_option maxRecDepth 100000
set_option maxHeartbeats 4000000
namespace L80
open PySem PySem.Spec PyProof.Rows L2 Ow
abbrev up4 (c : Cs) : Cs := csUp (csUp (csUp (csUp c)))
theorem ixT1 (x y : D) : ixF (.tup [x, y]) (.int 1) = some (.sh y) := ixT (i := 1) rfl
theorem fault_ok (c : Cs) {n : Nat} {text : Str} (h : Ok n text) (hn : n ≤ 100000) : b_deeds_fault (up4 c) [.sh (.str text)] = .ok (.sh (lrO text).2) [none] := by
  have hc : (up4 c).lines_read [.sh (.str text)] = _ := lines_read_ok c h hn
  refine fn_rt (e := [some (.sh (.str text))]) (ret_ok ((bin_ok (call1 (o := .sh (.str text)) rfl hc) nil_ok (o := .sh (lrO text).2) ?_)))
  exact ixT1 _ _
/-- no text at all -/
theorem lines_read_no (c : Cs) (d : D) (t : Ty) (ht : d.ty = some t) (hs : t.sub .str = false) : b_lines_read c [.sh d] = .ok (.tup [.lst [], .sh (.int 0)]) [none] := by
  unfold b_lines_read m_lines_read
  have es0 : (0 : Nat) ≤ sizeLine := by decide
  have es2 : (2 : Nat) ≤ sizeLine := by decide
  simp only [bodyFn, Ow.back, mSeq, mIf, M.bind, M.ret, M.no, slotM, mName, mMove, mKid, O.kid, mBin, ofOpt, ofOptB, ofG, mAsg, gM, gSet, gPut, frz, mRet, mExpr, mTst, mTru, mNotB, mAnd, mOr, mAndV, mOrV, mNotV, mNmTru, mLenNm, mCB, c1, mCons, mUn, mLst, mTup, mPart, mSl, O.er, O.ers, O.asB, addF, addI, subI, mulF, mulI, modI, fdivI, powI, ltI, leI, gtI, geI, ii0, iiF, eqF, neF, intF_int, intF_bl, D.asI, lenF, mNeNil, O.neNil, mKidPop, O.kidPop, isNF, notNF, D.isN, mNeg, mConsV, mConsL, mConsW, mCall, mCallK, takeA, putA, mCallP, mCallPK, peekA, List.map_cons, List.map_nil, List.cons_append, List.nil_append, List.replicate, List.getElem?_cons_zero, List.getElem?_cons_succ, List.getElem?_nil, List.set_cons_zero, List.set_cons_succ, List.set_nil, List.length_cons, List.length_nil, List.length_set, Option.map_some, Option.map_none, Option.bind_some, Option.bind_none, Nat.reduceAdd, Nat.reduceSub, Nat.reduceLT, Nat.reduceLeDiff, Nat.lt_add_one, if_true, if_false, reduceIte, Bool.false_eq_true, decide_true, decide_false, Bool.and_true, Bool.true_and, Bool.and_false, Bool.false_and, Bool.not_true, Bool.not_false, List.range_succ, List.range_zero, List.mem_cons, List.not_mem_nil, or_false, or_true, true_or, false_or, List.getD_cons_zero, List.getD_cons_succ, List.map_append, Nat.one_ne_zero, Nat.reduceEqDiff, reduceCtorEq, eq_self,es0, es2, isi_str, ht, hs, tru_bl]
theorem fault_no (c : Cs) (d : D) (t : Ty) (ht : d.ty = some t) (hs : t.sub .str = false) : b_deeds_fault (csUp c) [.sh d] = .ok (.sh (.int 0)) [none] := by
  have hc : (csUp c).lines_read [.sh d] = _ := lines_read_no c d t ht hs
  refine fn_rt (e := [some (.sh d)]) (ret_ok ((bin_ok (call1 (o := .sh d) rfl hc) nil_ok (o := .sh (.int 0)) ?_)))
  exact ixT1 _ _
theorem isN_int (i : Int) : (D.int i).isN = some false := rfl
def isNon : D → Bool
  | .non => true
  | _ => false
theorem read_of (c : Cs) (d : D) (acc : List D) (r : D) (hr : r = .non ∨ ∃ i, r = .int i) (hc : c.lines_read [.sh d] = .ok (.tup [.lst (acc.map O.sh), .sh r]) [none]) :
    b_read_deeds c [.sh d] = if isNon r then R.ok (.lst (acc.map O.sh)) [none] else R.exc "BadText" [("line", r)] [none] := by
  unfold b_read_deeds m_read_deeds
  have s1 : mAsg (mCall (fun os => if os.length = 1 then c.lines_read os else .no) (mConsV (mName 0) (M.ret []))) (gTupF [(1, false), (2, true)]) [some (.sh d), none, none] = .ok .nx [some (.sh d), some (.lst (acc.map O.sh)), some (.sh r)] :=
    asg_ok (call1 (o := .sh d) rfl hc) rfl
  rcases hr with rfl | ⟨i, rfl⟩
  · rw [if_pos (show isNon .non = true from rfl)]
    refine fn_rt (e := [some (.sh d), none, some (.sh .non)]) ((seq_nx s1).trans ?_)
    simp only [bodyFn, Ow.back, mSeq, mIf, M.bind, M.ret, M.no, slotM, mName, mMove, mKid, O.kid, mBin, ofOpt, ofOptB, ofG, mAsg, gM, gSet, gPut, frz, mRet, mExpr, mTst, mTru, mNotB, mAnd, mOr, mAndV, mOrV, mNotV, mNmTru, mLenNm, mCB, c1, mCons, mUn, mLst, mTup, mPart, mSl, O.er, O.ers, O.asB, addF, addI, subI, mulF, mulI, modI, fdivI, powI, ltI, leI, gtI, geI, ii0, iiF, eqF, neF, intF_int, intF_bl, D.asI, lenF, mNeNil, O.neNil, mKidPop, O.kidPop, isNF, notNF, D.isN, mNeg, mConsV, mConsL, mConsW, mCall, mCallK, takeA, putA, mCallP, mCallPK, peekA, List.map_cons, List.map_nil, List.cons_append, List.nil_append, List.replicate, List.getElem?_cons_zero, List.getElem?_cons_succ, List.getElem?_nil, List.set_cons_zero, List.set_cons_succ, List.set_nil, List.length_cons, List.length_nil, List.length_set, Option.map_some, Option.map_none, Option.bind_some, Option.bind_none, Nat.reduceAdd, Nat.reduceSub, Nat.reduceLT, Nat.reduceLeDiff, Nat.lt_add_one, if_true, if_false, reduceIte, Bool.false_eq_true, decide_true, decide_false, Bool.and_true, Bool.true_and, Bool.and_false, Bool.false_and, Bool.not_true, Bool.not_false, List.range_succ, List.range_zero, List.mem_cons, List.not_mem_nil, or_false, or_true, true_or, false_or, List.getD_cons_zero, List.getD_cons_succ, List.map_append, Nat.one_ne_zero, Nat.reduceEqDiff, reduceCtorEq, eq_self,isN_non]
  · rw [if_neg (show ¬ isNon (.int i) = true from Bool.false_ne_true)]
    unfold bodyFn
    have e : (mSeq (mAsg (mCall (fun os => if os.length = 1 then c.lines_read os else .no) (mConsV (mName 0) (M.ret []))) (gTupF [(1, false), (2, true)])) (mSeq (mIf (mTst (mUn notNF (mName 2))) (mRaise ("BadText" : Str) ("line" : Str) (mName 2)) (M.ret .nx)) (mRet (mMove 1)))) ([.sh d].map some ++ List.replicate (3 - 1) none) = .exc "BadText" [("line", .int i)] [some (.sh d), some (.lst (acc.map O.sh)), some (.sh (.int i))] := by
      refine (seq_nx s1).trans ?_
      unfold mRaise
      simp only [bodyFn, Ow.back, mSeq, mIf, M.bind, M.ret, M.no, slotM, mName, mMove, mKid, O.kid, mBin, ofOpt, ofOptB, ofG, mAsg, gM, gSet, gPut, frz, mRet, mExpr, mTst, mTru, mNotB, mAnd, mOr, mAndV, mOrV, mNotV, mNmTru, mLenNm, mCB, c1, mCons, mUn, mLst, mTup, mPart, mSl, O.er, O.ers, O.asB, addF, addI, subI, mulF, mulI, modI, fdivI, powI, ltI, leI, gtI, geI, ii0, iiF, eqF, neF, intF_int, intF_bl, D.asI, lenF, mNeNil, O.neNil, mKidPop, O.kidPop, isNF, notNF, D.isN, mNeg, mConsV, mConsL, mConsW, mCall, mCallK, takeA, putA, mCallP, mCallPK, peekA, List.map_cons, List.map_nil, List.cons_append, List.nil_append, List.replicate, List.getElem?_cons_zero, List.getElem?_cons_succ, List.getElem?_nil, List.set_cons_zero, List.set_cons_succ, List.set_nil, List.length_cons, List.length_nil, List.length_set, Option.map_some, Option.map_none, Option.bind_some, Option.bind_none, Nat.reduceAdd, Nat.reduceSub, Nat.reduceLT, Nat.reduceLeDiff, Nat.lt_add_one, if_true, if_false, reduceIte, Bool.false_eq_true, decide_true, decide_false, Bool.and_true, Bool.true_and, Bool.and_false, Bool.false_and, Bool.not_true, Bool.not_false, List.range_succ, List.range_zero, List.mem_cons, List.not_mem_nil, or_false, or_true, true_or, false_or, List.getD_cons_zero, List.getD_cons_succ, List.map_append, Nat.one_ne_zero, Nat.reduceEqDiff, reduceCtorEq, eq_self,isN_int]
    rw [e]
    rfl
theorem lrO_snd (text : Str) : (lrO text).2 = .non ∨ ∃ i, (lrO text).2 = .int i := by
  unfold lrO
  split
  · exact .inr ⟨_, rfl⟩
  · simp only []
    split
    · exact .inl rfl
    · exact .inr ⟨_, rfl⟩
theorem read_ok (c : Cs) {n : Nat} {text : Str} (h : Ok n text) (hn : n ≤ 100000) : b_read_deeds (up4 c) [.sh (.str text)] = if isNon (lrO text).2 then R.ok (.lst ((lrO text).1.map O.sh)) [none] else R.exc "BadText" [("line", (lrO text).2)] [none] :=
  read_of (up4 c) (.str text) _ _ (lrO_snd text) (lines_read_ok c h hn)
theorem read_no (c : Cs) (d : D) (t : Ty) (ht : d.ty = some t) (hs : t.sub .str = false) : b_read_deeds (csUp c) [.sh d] = .exc "BadText" [("line", .int 0)] [none] := by
  have := read_of (csUp c) d [] (.int 0) (.inr ⟨_, rfl⟩) (lines_read_no c d t ht hs)
  rw [this]
  rfl
/-! ### deeds_text -/
def strOf : D → Str
  | .str s => s
  | .int i => toString i
  | _ => ""
/-- a note's line -/
def lineOf (xs : List D) : Str := Txt.join (" " : Str) (xs.map strOf)
theorem pd_items {xs : List D} (h : pdB xs = true) : (∃ ch k, xs = [.str hearS, .str ch, .int k] ∧ letS ch = true ∧ 0 ≤ k ∧ k ≤ 3) ∨ (∃ k, xs = [.str tellS, .int k] ∧ 0 ≤ k ∧ k ≤ 5) ∨ xs = [.str freshS] := by
  have num : ∀ {lo hi : Int} {y : D}, numB lo hi y = true → ∃ k, y = .int k ∧ lo ≤ k ∧ k ≤ hi := fun {lo hi y} hy => by
    unfold numB at hy
    split at hy
    · rename_i i
      rw [Bool.and_eq_true] at hy
      exact ⟨i, rfl, of_decide_eq_true hy.1, of_decide_eq_true hy.2⟩
    · cases hy
  unfold pdB at h
  split at h
  · rename_i s x y
    rw [Bool.and_eq_true, Bool.and_eq_true] at h
    obtain ⟨h1, h2, h3⟩ := h
    have h1 := of_decide_eq_true h1
    subst h1
    obtain ⟨k, rfl, k1, k2⟩ := num h3
    unfold letB at h2
    split at h2
    · rename_i ch
      exact .inl ⟨ch, k, rfl, h2, k1, k2⟩
    · cases h2
  · rename_i s x
    rw [Bool.and_eq_true] at h
    have h1 := of_decide_eq_true h.1
    subst h1
    obtain ⟨k, rfl, k1, k2⟩ := num h.2
    exact .inr (.inl ⟨k, rfl, k1, k2⟩)
  · rename_i s
    have h1 := of_decide_eq_true h
    subst h1
    exact .inr (.inr rfl)
  · cases h
theorem strF_str (s : Str) : strF (.str s) = some (.sh (.str s)) := rfl
theorem strF_int {i : Int} (h0 : 0 ≤ i) (h : i ≤ 5) : strF (.int i) = some (.sh (.str (toString i))) := by
  show (if i.natAbs.log2 < 1920 then some (O.sh (.str (toString i))) else none) = _
  have : i = 0 ∨ i = 1 ∨ i = 2 ∨ i = 3 ∨ i = 4 ∨ i = 5 := by omega
  rcases this with rfl | rfl | rfl | rfl | rfl | rfl <;> rfl
theorem strF_all {xs : List D} (h : pdB xs = true) : ∀ x ∈ xs, strF x = some (.sh (.str (strOf x))) := by
  intro x hx
  rcases pd_items h with ⟨ch, k, rfl, _, k1, k2⟩ | ⟨k, rfl, k1, k2⟩ | rfl
  · simp only [List.mem_cons, List.not_mem_nil, or_false] at hx
    rcases hx with rfl | rfl | rfl
    · rfl
    · rfl
    · exact strF_int k1 (by omega)
  · simp only [List.mem_cons, List.not_mem_nil, or_false] at hx
    rcases hx with rfl | rfl
    · rfl
    · exact strF_int k1 k2
  · simp only [List.mem_cons, List.not_mem_nil, or_false] at hx
    subst hx
    rfl
theorem asS_all : ∀ zs : List Str, (zs.map D.str).mapM D.asS = some zs
  | [] => rfl
  | z :: zs => by
    rw [List.map_cons, List.mapM_cons, asS_all zs]
    rfl
theorem joinF_lst {s : Str} {zs : List Str} (h : (zs.map (·.length)).sum + zs.length * s.length ≤ 16777216) : joinF s (.lst (zs.map D.str)) = some (.sh (.str (Txt.join s zs))) := by
  show ((zs.map D.str).mapM D.asS).bind (fun zs => if (zs.map (·.length)).sum + zs.length * s.length ≤ 16777216 then some (O.sh (.str (Txt.join s zs))) else none) = _
  rw [asS_all]
  exact if_pos h
theorem tostr_len {i : Int} (h0 : 0 ≤ i) (h : i ≤ 5) : (toString i : Str).length = 1 := by
  have : i = 0 ∨ i = 1 ∨ i = 2 ∨ i = 3 ∨ i = 4 ∨ i = 5 := by omega
  rcases this with rfl | rfl | rfl | rfl | rfl | rfl <;> decide +kernel
theorem words_sum {xs : List D} (h : pdB xs = true) : ((xs.map strOf).map (·.length)).sum + (xs.map strOf).length * (" " : Str).length ≤ 100 := by
  have l1 : hearS.length = 4 := by decide +kernel
  have l2 : tellS.length = 4 := by decide +kernel
  have l3 : freshS.length = 5 := by decide +kernel
  have l4 : (" " : Str).length = 1 := by decide +kernel
  rcases pd_items h with ⟨ch, k, rfl, hc, k1, k2⟩ | ⟨k, rfl, k1, k2⟩ | rfl
  · have := letS_len hc
    have t := tostr_len k1 (by omega : k ≤ 5)
    simp only [strOf, List.map_cons, List.map_nil, List.sum_cons, List.sum_nil, List.length_cons, List.length_nil, l1, l4, this, t]
    omega
  · have t := tostr_len k1 k2
    simp only [strOf, List.map_cons, List.map_nil, List.sum_cons, List.sum_nil, List.length_cons, List.length_nil, l2, l4, t]
    omega
  · simp only [strOf, List.map_cons, List.map_nil, List.sum_cons, List.sum_nil, List.length_cons, List.length_nil, l3, l4]
    omega
end L80

set_option Elab.async false
set_option linter.all false
set_option maxRecDepth 100000
set_option maxHeartbeats 4000000
namespace L80
open PySem PySem.Spec PyProof.Rows L2 Ow
theorem join_tl (c : List Nat) (zs : List Str) : Txt.join (S c) zs = S (TL.joinL c (zs.map tl)) := by
  have h := SX.join_S c (zs.map tl)
  have e : (zs.map tl).map SX.S = zs := by
    rw [List.map_map]
    have : (SX.S ∘ tl) = id := by funext z; exact S_tl z
    rw [this, List.map_id]
  rw [e] at h
  exact h
theorem lineOf_S (xs : List D) : lineOf xs = S (TL.joinL [32] ((xs.map strOf).map tl)) := by
  unfold lineOf
  rw [spS, join_tl]
theorem digit_tl {k : Int} (h0 : 0 ≤ k) (h : k ≤ 5) : ∃ c, tl (toString k : Str) = [c] ∧ 48 ≤ c ∧ c ≤ 53 ∧ (c : Int) - 48 = k := by
  have : k = 0 ∨ k = 1 ∨ k = 2 ∨ k = 3 ∨ k = 4 ∨ k = 5 := by omega
  rcases this with rfl | rfl | rfl | rfl | rfl | rfl
  · exact ⟨48, by decide +kernel, by decide, by decide, by decide⟩
  · exact ⟨49, by decide +kernel, by decide, by decide, by decide⟩
  · exact ⟨50, by decide +kernel, by decide, by decide, by decide⟩
  · exact ⟨51, by decide +kernel, by decide, by decide, by decide⟩
  · exact ⟨52, by decide +kernel, by decide, by decide, by decide⟩
  · exact ⟨53, by decide +kernel, by decide, by decide, by decide⟩
theorem let_tl {s : Str} (h : letS s = true) : ∃ c, tl s = [c] ∧ 97 ≤ c ∧ c ≤ 122 := by
  unfold letS at h
  split at h
  · rename_i ch hc
    refine ⟨ch, hc, ?_⟩
    have h := of_decide_eq_true h
    have e : tl smallS = [97, 98, 99, 100, 101, 102, 103, 104, 105, 106, 107, 108, 109, 110, 111, 112, 113, 114, 115, 116, 117, 118, 119, 120, 121, 122] := by decide +kernel
    rw [e] at h
    simp only [List.mem_cons, List.not_mem_nil, or_false] at h
    omega
  · cases h
theorem tl_hear : tl hearS = [104, 101, 97, 114] := by decide +kernel
theorem tl_tell : tl tellS = [116, 101, 108, 108] := by decide +kernel
theorem tl_fresh : tl freshS = [102, 114, 101, 115, 104] := by decide +kernel
/-- a note's words, sign by sign -/
theorem words_tl {xs : List D} (h : pdB xs = true) : (∀ p ∈ (xs.map strOf).map tl, p.length ≤ 5 ∧ ∀ c ∈ p, 48 ≤ c ∧ c ≤ 122) ∧ xs ≠ [] ∧ xs.length ≤ 3 := by
  rcases pd_items h with ⟨ch, k, rfl, hc, k1, k2⟩ | ⟨k, rfl, k1, k2⟩ | rfl
  · obtain ⟨c, e, c1, c2⟩ := let_tl hc
    obtain ⟨d, e2, d1, d2, _⟩ := digit_tl k1 (by omega : k ≤ 5)
    refine ⟨?_, by simp, by simp⟩
    simp only [strOf, List.map_cons, List.map_nil, List.mem_cons, List.not_mem_nil, or_false, tl_hear, e, e2]
    rintro p (rfl | rfl | rfl)
    · exact ⟨by decide, by intro c hc; simp at hc; omega⟩
    · exact ⟨by simp, by intro c hc; simp at hc; omega⟩
    · exact ⟨by simp, by intro c hc; simp at hc; omega⟩
  · obtain ⟨d, e2, d1, d2, _⟩ := digit_tl k1 k2
    refine ⟨?_, by simp, by simp⟩
    simp only [strOf, List.map_cons, List.map_nil, List.mem_cons, List.not_mem_nil, or_false, tl_tell, e2]
    rintro p (rfl | rfl)
    · exact ⟨by decide, by intro c hc; simp at hc; omega⟩
    · exact ⟨by simp, by intro c hc; simp at hc; omega⟩
  · refine ⟨?_, by simp, by simp⟩
    simp only [strOf, List.map_cons, List.map_nil, List.mem_cons, List.not_mem_nil, or_false, tl_fresh]
    rintro p rfl
    exact ⟨by decide, by intro c hc; simp at hc; omega⟩
theorem joinL_facts (c : Nat) : ∀ (ps : List (List Nat)) (P : Nat → Prop), P c → (∀ p ∈ ps, p.length ≤ 5 ∧ ∀ x ∈ p, P x) → (TL.joinL [c] ps).length ≤ 6 * ps.length ∧ ∀ x ∈ TL.joinL [c] ps, P x
  | [], P, hc, h => by simp [TL.joinL]
  | [p], P, hc, h => by
    have := h p List.mem_cons_self
    exact ⟨by simp [TL.joinL]; omega, fun x hx => this.2 x (by simpa [TL.joinL] using hx)⟩
  | p :: q :: r, P, hc, h => by
    have h1 := h p List.mem_cons_self
    obtain ⟨h2, h3⟩ := joinL_facts c (q :: r) P hc fun p' hp' => h p' (List.mem_cons_of_mem _ hp')
    have e : TL.joinL [c] (p :: q :: r) = p ++ ([c] ++ TL.joinL [c] (q :: r)) := rfl
    rw [e]
    refine ⟨by simp at h2 ⊢; omega, fun x hx => ?_⟩
    simp only [List.mem_append, List.mem_singleton] at hx
    rcases hx with hx | rfl | hx
    · exact h1.2 x hx
    · exact hc
    · exact h3 x hx
theorem line_ok {xs : List D} (h : pdB xs = true) : Ok 18 (lineOf xs) ∧ 10 ∉ tl (lineOf xs) := by
  obtain ⟨h1, h2, h3⟩ := words_tl h
  rw [lineOf_S]
  obtain ⟨h4, h5⟩ := joinL_facts 32 ((xs.map strOf).map tl) (fun x => 32 ≤ x ∧ x ≤ 122) (by omega) fun p hp => ⟨(h1 p hp).1, fun x hx => by have := (h1 p hp).2 x hx; omega⟩
  rw [List.length_map, List.length_map] at h4
  refine ⟨⟨by rw [len_tl, tl_S]; omega, fun c hc => ?_⟩, fun hc => ?_⟩
  · rw [tl_S] at hc
    have := h5 c hc
    omega
  · rw [tl_S] at hc
    have := h5 10 hc
    omega
def scanT : Int → List D → List Str → List Str × Option Int
  | _, [], acc => (acc, none)
  | k, d :: ds, acc => if pdB (rowOf d) then scanT (k + 1) ds (acc ++ [lineOf (rowOf d) ++ ("\n" : Str)]) else (acc, some k)
abbrev dtB (c : Cs) : M Fl := mSeq (mAsg (mCall (fun os => if os.length = 1 then c.plain_deed os else .no) (mConsV (mName 3) (M.ret []))) (gSet 4 true)) (mSeq (mIf (mTst (mUn isNF (mName 4))) (mRaise ("BadDeed" : Str) ("index" : Str) (mName 2)) (M.ret .nx)) (mExpr (mAppend 1 (mBin addF (mStr1 joinF (M.ret (.sh (.str (" " : Str)))) (mComp [5] true (mWalk (mName 4)) (gSet 5 true) (M.ret true) (mCB (c1 strF) (mCons (mName 5) (M.ret []))))) (M.ret (.sh (.str ("\n" : Str))))))))
abbrev strL (acc : List Str) : O := .lst (acc.map fun s => O.sh (.str s))
theorem len_app (s t : Str) : (s ++ t).length = s.length + t.length := by rw [len_tl, len_tl, len_tl]; show (TL.tl (s ++ t)).length = _; rw [TL.tl_append, List.length_append]
theorem nl_len : ("\n" : Str).length = 1 := by decide +kernel
/-- what may stand in a row of notes -/
def Odd (n : Nat) (d : D) : Prop := d.ty ≠ none ∧ ∀ x ∈ rowOf d, Flat n x
theorem dt_for (c : Cs) {n : Nat} (hn : n ≤ 100000) (hc : ∀ d, Odd n d → c.plain_deed [.sh d] = .ok (.sh (pd d)) [none]) : ∀ (ds : List D) (k : Int) (acc : List Str) (x0 x2 x3 x4 x5 : Option O), (∀ d ∈ ds, Odd n d) → acc.length + ds.length ≤ 10000 →
    ∃ y2 y3 y4 y5, mFor (gTupF [(2, true), (3, true)]) (dtB c) (enD k ds) [x0, some (strL acc), x2, x3, x4, x5] = (match scanT k ds acc with
      | (acc', some k') => .exc "BadDeed" [("index", .int k')] [x0, some (strL acc'), y2, y3, y4, y5]
      | (acc', none) => .ok .nx [x0, some (strL acc'), y2, y3, y4, y5])
  | [], k, acc, x0, x2, x3, x4, x5, _, _ => ⟨x2, x3, x4, x5, rfl⟩
  | d :: ds, k, acc, x0, x2, x3, x4, x5, hl, hlen => by
    rw [enD_cons]
    have h1 : gTupF [(2, true), (3, true)] (.sh (.tup [.int k, d])) [x0, some (strL acc), x2, x3, x4, x5] = some [x0, some (strL acc), some (.sh (.int k)), some (.sh d), x4, x5] := rfl
    have hd := hc d (hl d List.mem_cons_self)
    have s1 : mAsg (mCall (fun os => if os.length = 1 then c.plain_deed os else .no) (mConsV (mName 3) (M.ret []))) (gSet 4 true) [x0, some (strL acc), some (.sh (.int k)), some (.sh d), x4, x5] = .ok .nx [x0, some (strL acc), some (.sh (.int k)), some (.sh d), some (.sh (pd d)), x5] :=
      asg_ok (call1 (e1 := [x0, some (strL acc), some (.sh (.int k)), some (.sh d), x4, x5]) (o := .sh d) rfl hd) rfl
    cases hp : pdB (rowOf d) with
    | false =>
      have hs : scanT k (d :: ds) acc = (acc, some k) := by unfold scanT; rw [hp]; rfl
      have e : pd d = .non := by unfold pd; rw [hp]; rfl
      rw [hs]
      refine ⟨some (.sh (.int k)), some (.sh d), some (.sh (pd d)), x5, ?_⟩
      refine for_exc h1 ((seq_nx s1).trans (seq_exc ?_))
      rw [e]
      unfold mRaise
      simp only [bodyFn, Ow.back, mSeq, mIf, M.bind, M.ret, M.no, slotM, mName, mMove, mKid, O.kid, mBin, ofOpt, ofOptB, ofG, mAsg, gM, gSet, gPut, frz, mRet, mExpr, mTst, mTru, mNotB, mAnd, mOr, mAndV, mOrV, mNotV, mNmTru, mLenNm, mCB, c1, mCons, mUn, mLst, mTup, mPart, mSl, O.er, O.ers, O.asB, addF, addI, subI, mulF, mulI, modI, fdivI, powI, ltI, leI, gtI, geI, ii0, iiF, eqF, neF, intF_int, intF_bl, D.asI, lenF, mNeNil, O.neNil, mKidPop, O.kidPop, isNF, notNF, D.isN, mNeg, mConsV, mConsL, mConsW, mCall, mCallK, takeA, putA, mCallP, mCallPK, peekA, List.map_cons, List.map_nil, List.cons_append, List.nil_append, List.replicate, List.getElem?_cons_zero, List.getElem?_cons_succ, List.getElem?_nil, List.set_cons_zero, List.set_cons_succ, List.set_nil, List.length_cons, List.length_nil, List.length_set, Option.map_some, Option.map_none, Option.bind_some, Option.bind_none, Nat.reduceAdd, Nat.reduceSub, Nat.reduceLT, Nat.reduceLeDiff, Nat.lt_add_one, if_true, if_false, reduceIte, Bool.false_eq_true, decide_true, decide_false, Bool.and_true, Bool.true_and, Bool.and_false, Bool.false_and, Bool.not_true, Bool.not_false, List.range_succ, List.range_zero, List.mem_cons, List.not_mem_nil, or_false, or_true, true_or, false_or, List.getD_cons_zero, List.getD_cons_succ, List.map_append, Nat.one_ne_zero, Nat.reduceEqDiff, reduceCtorEq, eq_self,isN_non]
    | true =>
      have hs : scanT k (d :: ds) acc = scanT (k + 1) ds (acc ++ [lineOf (rowOf d) ++ ("\n" : Str)]) := by
        conv => lhs; unfold scanT
        rw [hp, if_pos rfl]
      have e : pd d = .tup (rowOf d) := by unfold pd; rw [hp]; rfl
      rw [hs]
      have hlt : (acc.map fun s => O.sh (.str s)).length < sizeLine := by rw [List.length_map, sizeLine_v]; simp at hlen; omega
      obtain ⟨y2, y3, y4, y5, ih⟩ := dt_for c hn hc ds (k + 1) (acc ++ [lineOf (rowOf d) ++ ("\n" : Str)]) x0 (some (.sh (.int k))) (some (.sh d)) (some (.sh (pd d))) x5 (fun l' hl' => hl l' (List.mem_cons_of_mem _ hl')) (by simp at hlen ⊢; omega)
      refine ⟨y2, y3, y4, y5, ?_⟩
      have hk : mCompK [5] true (gSet 5 true) (M.ret true) (mCB (c1 strF) (mCons (mName 5) (M.ret []))) (rowOf d) [x0, some (strL acc), some (.sh (.int k)), some (.sh d), some (.sh (pd d)), x5] = .ok (.lst ((rowOf d).map fun x => .sh (.str (strOf x)))) [x0, some (strL acc), some (.sh (.int k)), some (.sh d), some (.sh (pd d)), x5] := by
        refine compK1 (e0 := [x0, some (strL acc), some (.sh (.int k)), some (.sh d), some (.sh (pd d)), none]) (fun x => .str (strOf x)) rfl rfl rfl fun x hx => ?_
        have hx' := strF_all hp x hx
        exact ⟨_, .sh (.str (strOf x)), [x0, some (strL acc), some (.sh (.int k)), some (.sh d), some (.sh (pd d)), some (.sh x)], rfl, cb_ok (os := [.sh x]) (cons_ok rfl (nil_ok (a := ([] : List O)))) hx', rfl, rfl⟩
      have he : (O.lst ((rowOf d).map fun x => O.sh (.str (strOf x)))).er = .lst (((rowOf d).map strOf).map D.str) := by
        show D.lst (O.ers _) = _
        rw [O.ers_map, List.map_map, List.map_map]; rfl
      have hw := words_sum hp
      have hj : joinF (" " : Str) (.lst (((rowOf d).map strOf).map D.str)) = some (.sh (.str (lineOf (rowOf d)))) := joinF_lst (by omega)
      have hcat : addF (.str (lineOf (rowOf d))) (.str ("\n" : Str)) = some (.sh (.str (lineOf (rowOf d) ++ ("\n" : Str)))) := by
        have hlc : (lineOf (rowOf d)).length + ("\n" : Str).length ≤ sizeLine := by
          have := (line_ok hp).1.1
          rw [nl_len, sizeLine_v]; omega
        show (match (none : Option O) with | some o => some o | none => match (if (lineOf (rowOf d)).length + ("\n" : Str).length ≤ sizeLine then some (O.sh (.str (lineOf (rowOf d) ++ ("\n" : Str)))) else none) with | some o => some o | none => _) = _
        rw [if_pos hlc]
      have hv : mBin addF (mStr1 joinF (M.ret (.sh (.str (" " : Str)))) (mComp [5] true (mWalk (mName 4)) (gSet 5 true) (M.ret true) (mCB (c1 strF) (mCons (mName 5) (M.ret []))))) (M.ret (.sh (.str ("\n" : Str)))) [x0, some (strL acc), some (.sh (.int k)), some (.sh d), some (.sh (pd d)), x5] = .ok (.sh (.str (lineOf (rowOf d) ++ ("\n" : Str)))) [x0, some (strL acc), some (.sh (.int k)), some (.sh d), some (.sh (pd d)), x5] := by
        refine bin_ok (x := .sh (.str (lineOf (rowOf d)))) (str1_ok (s := (" " : Str)) nil_ok rfl (comp_ok (walk_ok (x := .sh (pd d)) rfl (by show (pd d).walk = some (rowOf d); rw [e]; rfl)) hk) (by rw [he]; exact hj)) nil_ok hcat
      have ha : mAppend 1 (mBin addF (mStr1 joinF (M.ret (.sh (.str (" " : Str)))) (mComp [5] true (mWalk (mName 4)) (gSet 5 true) (M.ret true) (mCB (c1 strF) (mCons (mName 5) (M.ret []))))) (M.ret (.sh (.str ("\n" : Str))))) [x0, some (strL acc), some (.sh (.int k)), some (.sh d), some (.sh (pd d)), x5] = .ok (.sh .non) [x0, some (strL (acc ++ [lineOf (rowOf d) ++ ("\n" : Str)])), some (.sh (.int k)), some (.sh d), some (.sh (pd d)), x5] := by
        unfold mAppend slotM
        show (M.bind (ofG (some _)) fun _ => _) _ = _
        rw [bind_ok (show (ofG (some _) : M (List O)) _ = .ok _ _ from rfl), bind_ok hv]
        show (M.bind (ofG (some _)) fun _ => _) _ = _
        rw [bind_ok (show (ofG (some _) : M (List O)) _ = .ok _ _ from rfl), if_pos hlt]
        simp [strL]
      have s2 : mIf (mTst (mUn isNF (mName 4))) (mRaise ("BadDeed" : Str) ("index" : Str) (mName 2)) (M.ret .nx) [x0, some (strL acc), some (.sh (.int k)), some (.sh d), some (.sh (pd d)), x5] = .ok .nx [x0, some (strL acc), some (.sh (.int k)), some (.sh d), some (.sh (pd d)), x5] := by
        rw [e]
        unfold mRaise
        simp only [bodyFn, Ow.back, mSeq, mIf, M.bind, M.ret, M.no, slotM, mName, mMove, mKid, O.kid, mBin, ofOpt, ofOptB, ofG, mAsg, gM, gSet, gPut, frz, mRet, mExpr, mTst, mTru, mNotB, mAnd, mOr, mAndV, mOrV, mNotV, mNmTru, mLenNm, mCB, c1, mCons, mUn, mLst, mTup, mPart, mSl, O.er, O.ers, O.asB, addF, addI, subI, mulF, mulI, modI, fdivI, powI, ltI, leI, gtI, geI, ii0, iiF, eqF, neF, intF_int, intF_bl, D.asI, lenF, mNeNil, O.neNil, mKidPop, O.kidPop, isNF, notNF, D.isN, mNeg, mConsV, mConsL, mConsW, mCall, mCallK, takeA, putA, mCallP, mCallPK, peekA, List.map_cons, List.map_nil, List.cons_append, List.nil_append, List.replicate, List.getElem?_cons_zero, List.getElem?_cons_succ, List.getElem?_nil, List.set_cons_zero, List.set_cons_succ, List.set_nil, List.length_cons, List.length_nil, List.length_set, Option.map_some, Option.map_none, Option.bind_some, Option.bind_none, Nat.reduceAdd, Nat.reduceSub, Nat.reduceLT, Nat.reduceLeDiff, Nat.lt_add_one, if_true, if_false, reduceIte, Bool.false_eq_true, decide_true, decide_false, Bool.and_true, Bool.true_and, Bool.and_false, Bool.false_and, Bool.not_true, Bool.not_false, List.range_succ, List.range_zero, List.mem_cons, List.not_mem_nil, or_false, or_true, true_or, false_or, List.getD_cons_zero, List.getD_cons_succ, List.map_append, Nat.one_ne_zero, Nat.reduceEqDiff, reduceCtorEq, eq_self,isN_tup]
      rw [for_nx h1 ((seq_nx s1).trans ((seq_nx s2).trans (exp_ok ha)))]
      exact ih
end L80

set_option Elab.async false
set_option linter.all false
set_option maxRecDepth 100000
set_option maxHeartbeats 4000000
namespace L80
open PySem PySem.Spec PyProof.Rows L2 Ow
theorem joinL_flat : ∀ ps : List (List Nat), TL.joinL [] ps = ps.flatten
  | [] => rfl
  | [p] => by simp [TL.joinL]
  | p :: q :: r => by
    have e : TL.joinL [] (p :: q :: r) = p ++ ([] ++ TL.joinL [] (q :: r)) := rfl
    rw [e, joinL_flat (q :: r)]
    simp
theorem emS : ("" : Str) = S [] := by decide +kernel
theorem joinE (zs : List Str) : Txt.join ("" : Str) zs = S ((zs.map tl).flatten) := by rw [emS, join_tl, joinL_flat]
theorem Ok.app {m n : Nat} {s t : Str} (h : Ok m s) (h2 : Ok n t) : Ok (m + n) (s ++ t) := by
  have e : tl (s ++ t) = tl s ++ tl t := TL.tl_append s t
  refine ⟨by rw [len_app]; have := h.1; have := h2.1; omega, fun c hc => ?_⟩
  rw [e] at hc
  rcases List.mem_append.mp hc with z | z
  · exact h.2 c z
  · exact h2.2 c z
theorem nl_ok : Ok 1 ("\n" : Str) := okS ("\n" : Str) (by decide +kernel)
theorem row_ok {xs : List D} (h : pdB xs = true) : Ok 19 (lineOf xs ++ ("\n" : Str)) := (line_ok h).1.app nl_ok
theorem scan_bd : ∀ (ds : List D) (k : Int) (acc : List Str), (∀ z ∈ acc, Ok 19 z) → (∀ z ∈ (scanT k ds acc).1, Ok 19 z) ∧ (scanT k ds acc).1.length ≤ acc.length + ds.length
  | [], k, acc, h => ⟨h, Nat.le_refl _⟩
  | d :: ds, k, acc, h => by
    unfold scanT
    cases hp : pdB (rowOf d) with
    | false => exact ⟨h, by simp⟩
    | true =>
      have := scan_bd ds (k + 1) (acc ++ [lineOf (rowOf d) ++ ("\n" : Str)]) fun z hz => by
        rcases List.mem_append.mp hz with q | q
        · exact h z q
        · rw [List.mem_singleton.mp q]; exact row_ok hp
      exact ⟨this.1, by have := this.2; simp at this ⊢; omega⟩
theorem sum_le {n : Nat} : ∀ zs : List Str, (∀ z ∈ zs, Ok n z) → (zs.map (·.length)).sum ≤ n * zs.length
  | [], _ => Nat.le_refl _
  | z :: zs, h => by
    have h1 := (h z List.mem_cons_self).1
    have h2 := sum_le zs fun y hy => h y (List.mem_cons_of_mem _ hy)
    rw [List.map_cons, List.sum_cons, List.length_cons, Nat.mul_succ]
    omega
theorem flat_len : ∀ zs : List Str, ((zs.map tl).flatten).length = (zs.map (·.length)).sum
  | [] => rfl
  | z :: zs => by
    rw [List.map_cons, List.flatten_cons, List.length_append, flat_len zs, List.map_cons, List.sum_cons, len_tl]
theorem joinE_ok {n m : Nat} {zs : List Str} (h : ∀ z ∈ zs, Ok n z) (hm : zs.length ≤ m) : Ok (n * m) (Txt.join ("" : Str) zs) := by
  rw [joinE]
  refine ⟨?_, fun c hc => ?_⟩
  · rw [len_tl, tl_S, flat_len]
    exact Nat.le_trans (sum_le zs h) (Nat.mul_le_mul_left n hm)
  · rw [tl_S] at hc
    obtain ⟨l, hl, hc⟩ := List.mem_flatten.mp hc
    obtain ⟨z, hz, rfl⟩ := List.mem_map.mp hl
    exact (h z hz).2 c hc
theorem em_len : ("" : Str).length = 0 := by decide +kernel
theorem strL_er (acc : List Str) : (strL acc).er = .lst (acc.map D.str) := by
  show D.lst (O.ers _) = _
  rw [O.ers_map, List.map_map]; rfl
theorem joinF_E {n m : Nat} {zs : List Str} (h : ∀ z ∈ zs, Ok n z) (hm : zs.length ≤ m) (hb : n * m ≤ 16777216) : joinF ("" : Str) (.lst (zs.map D.str)) = some (.sh (.str (Txt.join ("" : Str) zs))) := by
  refine joinF_lst ?_
  rw [em_len, Nat.mul_zero, Nat.add_zero]
  exact Nat.le_trans (sum_le zs h) (Nat.le_trans (Nat.mul_le_mul_left n hm) hb)
def dtR (ds : List D) : R O := match scanT 0 ds [] with
  | (acc, none) => .ok (.sh (.str (Txt.join ("" : Str) acc))) [none]
  | (_, some k) => .exc "BadDeed" [("index", .int k)] [none]
theorem deeds_text_ok (c : Cs) {n : Nat} (hn : n ≤ 100000) (d : D) (ds : List D) (hd : d = .lst ds ∨ d = .tup ds) (ho : ∀ x ∈ ds, Odd n x) (hl : ds.length ≤ 10000) : b_deeds_text (csUp (csUp c)) [.sh d] = dtR ds := by
  have es0 : (0 : Nat) ≤ sizeLine := by decide
  have es2 : (2 : Nat) ≤ sizeLine := by decide
  obtain ⟨ty, hty, hsub⟩ : ∃ ty, d.ty = some ty ∧ (ty.sub .list || ty.sub .tuple) = true := by
    rcases hd with rfl | rfl <;> exact ⟨_, rfl, rfl⟩
  have hrow : d.row = some ds := by rcases hd with rfl | rfl <;> rfl
  have s1 : mIf (mNotB (mTru (mCB isiF (mCons (mName 0) (mCons (mTup (mCons (M.ret (.sh (tyD .list))) (mCons (M.ret (.sh (tyD .tuple))) (M.ret [])))) (M.ret [])))))) (mRaise ("BadDeed" : Str) ("index" : Str) (M.ret (.sh (.int 0)))) (M.ret .nx) [some (.sh d), none, none, none, none, none] = .ok .nx [some (.sh d), none, none, none, none, none] := by
    simp only [bodyFn, Ow.back, mSeq, mIf, M.bind, M.ret, M.no, slotM, mName, mMove, mKid, O.kid, mBin, ofOpt, ofOptB, ofG, mAsg, gM, gSet, gPut, frz, mRet, mExpr, mTst, mTru, mNotB, mAnd, mOr, mAndV, mOrV, mNotV, mNmTru, mLenNm, mCB, c1, mCons, mUn, mLst, mTup, mPart, mSl, O.er, O.ers, O.asB, addF, addI, subI, mulF, mulI, modI, fdivI, powI, ltI, leI, gtI, geI, ii0, iiF, eqF, neF, intF_int, intF_bl, D.asI, lenF, mNeNil, O.neNil, mKidPop, O.kidPop, isNF, notNF, D.isN, mNeg, mConsV, mConsL, mConsW, mCall, mCallK, takeA, putA, mCallP, mCallPK, peekA, List.map_cons, List.map_nil, List.cons_append, List.nil_append, List.replicate, List.getElem?_cons_zero, List.getElem?_cons_succ, List.getElem?_nil, List.set_cons_zero, List.set_cons_succ, List.set_nil, List.length_cons, List.length_nil, List.length_set, Option.map_some, Option.map_none, Option.bind_some, Option.bind_none, Nat.reduceAdd, Nat.reduceSub, Nat.reduceLT, Nat.reduceLeDiff, Nat.lt_add_one, if_true, if_false, reduceIte, Bool.false_eq_true, decide_true, decide_false, Bool.and_true, Bool.true_and, Bool.and_false, Bool.false_and, Bool.not_true, Bool.not_false, List.range_succ, List.range_zero, List.mem_cons, List.not_mem_nil, or_false, or_true, true_or, false_or, List.getD_cons_zero, List.getD_cons_succ, List.map_append, Nat.one_ne_zero, Nat.reduceEqDiff, reduceCtorEq, eq_self,isiLT, hty, hsub, tru_bl, es2]
  have s2 : mAsg (mLst (M.ret [])) (gSet 1 false) [some (.sh d), none, none, none, none, none] = .ok .nx [some (.sh d), some (.lst []), none, none, none, none] := by simp only [bodyFn, Ow.back, mSeq, mIf, M.bind, M.ret, M.no, slotM, mName, mMove, mKid, O.kid, mBin, ofOpt, ofOptB, ofG, mAsg, gM, gSet, gPut, frz, mRet, mExpr, mTst, mTru, mNotB, mAnd, mOr, mAndV, mOrV, mNotV, mNmTru, mLenNm, mCB, c1, mCons, mUn, mLst, mTup, mPart, mSl, O.er, O.ers, O.asB, addF, addI, subI, mulF, mulI, modI, fdivI, powI, ltI, leI, gtI, geI, ii0, iiF, eqF, neF, intF_int, intF_bl, D.asI, lenF, mNeNil, O.neNil, mKidPop, O.kidPop, isNF, notNF, D.isN, mNeg, mConsV, mConsL, mConsW, mCall, mCallK, takeA, putA, mCallP, mCallPK, peekA, List.map_cons, List.map_nil, List.cons_append, List.nil_append, List.replicate, List.getElem?_cons_zero, List.getElem?_cons_succ, List.getElem?_nil, List.set_cons_zero, List.set_cons_succ, List.set_nil, List.length_cons, List.length_nil, List.length_set, Option.map_some, Option.map_none, Option.bind_some, Option.bind_none, Nat.reduceAdd, Nat.reduceSub, Nat.reduceLT, Nat.reduceLeDiff, Nat.lt_add_one, if_true, if_false, reduceIte, Bool.false_eq_true, decide_true, decide_false, Bool.and_true, Bool.true_and, Bool.and_false, Bool.false_and, Bool.not_true, Bool.not_false, List.range_succ, List.range_zero, List.mem_cons, List.not_mem_nil, or_false, or_true, true_or, false_or, List.getD_cons_zero, List.getD_cons_succ, List.map_append, Nat.one_ne_zero, Nat.reduceEqDiff, reduceCtorEq, eq_self,es0]
  have hi : mEn1 (mName 0) [some (.sh d), some (.lst []), none, none, none, none] = .ok (enD 0 ds) [some (.sh d), some (.lst []), none, none, none, none] := by
    unfold mEn1
    rw [bind_ok (show mName 0 _ = .ok (.sh d) _ from rfl)]
    show ofG (d.row.map (enD 0)) _ = _
    rw [hrow]
    rfl
  obtain ⟨y2, y3, y4, y5, hf⟩ := dt_for (csUp (csUp c)) hn (fun x hx => plain_ok c x hn hx.2 hx.1) ds 0 [] (some (.sh d)) none none none none ho (by simpa using hl)
  obtain ⟨b1, b2⟩ := scan_bd ds 0 [] (fun z hz => nomatch hz)
  unfold b_deeds_text m_deeds_text dtR
  cases hs : scanT 0 ds [] with
  | mk acc ok =>
    rw [hs] at hf b1 b2
    cases ok with
    | some k =>
      unfold bodyFn
      have e := (seq_nx s1).trans ((seq_nx s2).trans (seq_exc (m2 := mRet (mStr1 joinF (M.ret (.sh (.str ("" : Str)))) (mName 1))) ((bind_ok hi).trans hf)))
      show (match mSeq _ _ [some (.sh d), none, none, none, none, none] with | .ok (.rt o) e => R.ok o (Ow.back [] 1 e) | .ok .nx e => .ok (.sh .non) (Ow.back [] 1 e) | .exc c fs e => .exc c fs (Ow.back [] 1 e) | _ => .no) = _
      rw [e]
      rfl
    | none =>
      refine fn_rt (e := [some (.sh d), some (.sh (strL acc).er), y2, y3, y4, y5]) ((seq_nx s1).trans ((seq_nx s2).trans ((seq_nx ((bind_ok hi).trans hf)).trans (ret_ok (str1_ok (s := ("" : Str)) nil_ok rfl (show mName 1 _ = .ok (.sh (strL acc).er) _ from rfl) ?_)))))
      show joinF _ (strL acc).er = _
      rw [strL_er]
      exact joinF_E (n := 19) (m := 10000) b1 (by simp at b2; omega) (by omega)
theorem deeds_text_no (c : Cs) (d : D) (t : Ty) (ht : d.ty = some t) (hs : (t.sub .list || t.sub .tuple) = false) : b_deeds_text c [.sh d] = .exc "BadDeed" [("index", .int 0)] [none] := by
  have es2 : (2 : Nat) ≤ sizeLine := by decide
  unfold b_deeds_text m_deeds_text
  have s1 : mIf (mNotB (mTru (mCB isiF (mCons (mName 0) (mCons (mTup (mCons (M.ret (.sh (tyD .list))) (mCons (M.ret (.sh (tyD .tuple))) (M.ret [])))) (M.ret [])))))) (mRaise ("BadDeed" : Str) ("index" : Str) (M.ret (.sh (.int 0)))) (M.ret .nx) [some (.sh d), none, none, none, none, none] = .exc "BadDeed" [("index", .int 0)] [some (.sh d), none, none, none, none, none] := by
    unfold mRaise
    simp only [bodyFn, Ow.back, mSeq, mIf, M.bind, M.ret, M.no, slotM, mName, mMove, mKid, O.kid, mBin, ofOpt, ofOptB, ofG, mAsg, gM, gSet, gPut, frz, mRet, mExpr, mTst, mTru, mNotB, mAnd, mOr, mAndV, mOrV, mNotV, mNmTru, mLenNm, mCB, c1, mCons, mUn, mLst, mTup, mPart, mSl, O.er, O.ers, O.asB, addF, addI, subI, mulF, mulI, modI, fdivI, powI, ltI, leI, gtI, geI, ii0, iiF, eqF, neF, intF_int, intF_bl, D.asI, lenF, mNeNil, O.neNil, mKidPop, O.kidPop, isNF, notNF, D.isN, mNeg, mConsV, mConsL, mConsW, mCall, mCallK, takeA, putA, mCallP, mCallPK, peekA, List.map_cons, List.map_nil, List.cons_append, List.nil_append, List.replicate, List.getElem?_cons_zero, List.getElem?_cons_succ, List.getElem?_nil, List.set_cons_zero, List.set_cons_succ, List.set_nil, List.length_cons, List.length_nil, List.length_set, Option.map_some, Option.map_none, Option.bind_some, Option.bind_none, Nat.reduceAdd, Nat.reduceSub, Nat.reduceLT, Nat.reduceLeDiff, Nat.lt_add_one, if_true, if_false, reduceIte, Bool.false_eq_true, decide_true, decide_false, Bool.and_true, Bool.true_and, Bool.and_false, Bool.false_and, Bool.not_true, Bool.not_false, List.range_succ, List.range_zero, List.mem_cons, List.not_mem_nil, or_false, or_true, true_or, false_or, List.getD_cons_zero, List.getD_cons_succ, List.map_append, Nat.one_ne_zero, Nat.reduceEqDiff, reduceCtorEq, eq_self,isiLT, ht, hs, tru_bl, es2]
  unfold bodyFn
  have e := seq_exc (m2 := mSeq (mAsg (mLst (M.ret [])) (gSet 1 false)) (mSeq (M.bind (mEn1 (mName 0)) fun ds => mFor (gTupF [(2, true), (3, true)]) (dtB c) ds) (mRet (mStr1 joinF (M.ret (.sh (.str ("" : Str)))) (mName 1))))) s1
  show (match mSeq _ _ [some (.sh d), none, none, none, none, none] with | .ok (.rt o) e => R.ok o (Ow.back [] 1 e) | .ok .nx e => .ok (.sh .non) (Ow.back [] 1 e) | .exc c fs e => .exc c fs (Ow.back [] 1 e) | _ => .no) = _
  rw [e]
  rfl
/-! ### _law_mtext -/
def mtext (zs : List Str) : Str := Txt.join ("" : Str) (zs.map fun z => z ++ ("\n" : Str))
theorem addStr {n : Nat} {a b : Str} (h : a.length ≤ n) (h2 : b.length ≤ n) (hn : n ≤ 1000000) : addF (.str a) (.str b) = some (.sh (.str (a ++ b))) := by
  have hl : a.length + b.length ≤ sizeLine := by rw [sizeLine_v]; omega
  show (match (none : Option O) with | some o => some o | none => match (if a.length + b.length ≤ sizeLine then some (O.sh (.str (a ++ b))) else none) with | some o => some o | none => _) = _
  rw [if_pos hl]
theorem mtext_ok (c : Cs) {n : Nat} {zs : List Str} (h : ∀ z ∈ zs, Ok n z) (hn : n ≤ 1000) (hl : zs.length ≤ 1000) : b__law_mtext c [.sh (.lst (zs.map D.str))] = .ok (.sh (.str (mtext zs))) [none] ∧ Ok ((n + 1) * zs.length) (mtext zs) := by
  have ha : ∀ y ∈ zs.map (fun z => z ++ ("\n" : Str)), Ok (n + 1) y := fun y hy => by
    obtain ⟨z, hz, rfl⟩ := List.mem_map.mp hy
    exact (h z hz).app nl_ok
  constructor
  · unfold b__law_mtext m__law_mtext
    have hk : mCompK [1] true (gSet 1 true) (M.ret true) (mBin addF (mName 1) (M.ret (.sh (.str ("\n" : Str))))) (zs.map D.str) [some (.sh (.lst (zs.map D.str))), none] = .ok (.lst ((zs.map D.str).map fun d => .sh (match d with | .str w => .str (w ++ ("\n" : Str)) | d => d))) [some (.sh (.lst (zs.map D.str))), none] := by
      refine compK1 (e0 := [some (.sh (.lst (zs.map D.str))), none]) (fun d => match d with | .str w => .str (w ++ ("\n" : Str)) | d => d) rfl rfl rfl fun d hd => ?_
      obtain ⟨w, hw, rfl⟩ := List.mem_map.mp hd
      refine ⟨_, .sh (.str (w ++ ("\n" : Str))), [some (.sh (.lst (zs.map D.str))), some (.sh (.str w))], rfl, bin_ok (x := .sh (.str w)) rfl nil_ok ?_, rfl, rfl⟩
      exact addStr (n := 1000) (by have := (h w hw).1; omega) (by rw [nl_len]; omega) (by omega)
    have hr : (O.lst ((zs.map D.str).map fun d => O.sh (match d with | .str w => .str (w ++ ("\n" : Str)) | d => d))).er = .lst ((zs.map (fun z => z ++ ("\n" : Str))).map D.str) := by
      show D.lst (O.ers _) = _
      rw [O.ers_map, List.map_map, List.map_map, List.map_map]; rfl
    refine fn_rt (e := [some (.sh (.lst (zs.map D.str))), none]) (ret_ok (str1_ok (s := ("" : Str)) nil_ok rfl (comp_ok (walk_ok (x := .sh (.lst (zs.map D.str))) rfl rfl) hk) ?_))
    rw [hr]
    exact joinF_E (n := n + 1) (m := 1000) ha (by simpa using hl) (by omega)
  · exact joinE_ok ha (by simp)
end L80

set_option Elab.async false
set_option linter.all false
set_option maxRecDepth 100000
set_option maxHeartbeats 4000000
namespace L80
open PySem PySem.Spec PyProof.Rows L2 Ow
theorem parts_line {xs : List D} (h : pdB xs = true) : parts 32 (lineOf xs) = xs.map strOf := by
  obtain ⟨h1, h2, _⟩ := words_tl h
  unfold parts
  rw [lineOf_S, tl_S, ← spl_cut, TL.spl_join (by simpa using h2) (fun p hp hc => by have := (h1 p hp).2 _ hc; omega), List.map_map]
  have : (S ∘ tl) = id := by funext z; exact S_tl z
  rw [this, List.map_id]
theorem conv_let {ch : Str} (h : letS ch = true) : conv ch = .str ch := by
  rcases conv_cases ch with ⟨i, _, q⟩ | ⟨e, _⟩
  · rw [num_let q] at h; cases h
  · exact e
theorem conv_num {k : Int} (h0 : 0 ≤ k) (h : k ≤ 5) : conv (toString k : Str) = .int k := by
  obtain ⟨c, e, c1, c2, c3⟩ := digit_tl h0 h
  apply conv_some
  unfold numVal
  rw [e]
  simp only []
  rw [if_pos ⟨c1, c2⟩, c3]
theorem conv_back {xs : List D} (h : pdB xs = true) : (xs.map strOf).map conv = xs := by
  rcases pd_items h with ⟨ch, k, rfl, hc, k1, k2⟩ | ⟨k, rfl, k1, k2⟩ | rfl
  · show [conv hearS, conv ch, conv (toString k)] = _
    rw [conv_none nv_hear, conv_let hc, conv_num k1 (by omega)]
  · show [conv tellS, conv (toString k)] = _
    rw [conv_none nv_tell, conv_num k1 k2]
  · show [conv freshS] = _
    rw [conv_none nv_fresh]
theorem line_back {xs : List D} (h : pdB xs = true) : lineD (lineOf xs) = .tup xs := by
  unfold lineD pd
  rw [parts_line h, conv_back h]
  show (if pdB xs then _ else _) = _
  rw [if_pos h]
  rfl
theorem cut_line (c : Nat) : ∀ (p acc r : List Nat), c ∉ p → cut c acc (p ++ c :: r) = (acc ++ p) :: cut c [] r
  | [], acc, r, _ => by
    show cut c acc (c :: r) = _
    conv => lhs; unfold cut
    rw [if_pos rfl, List.append_nil]
  | x :: p, acc, r, h => by
    show cut c acc (x :: (p ++ c :: r)) = _
    conv => lhs; unfold cut
    rw [if_neg (fun z => h (by rw [z]; exact List.mem_cons_self)), cut_line c p _ r (fun z => h (List.mem_cons_of_mem _ z)), List.append_assoc]
    rfl
theorem tl_app (s t : Str) : tl (s ++ t) = tl s ++ tl t := TL.tl_append s t
theorem tl_nl : tl ("\n" : Str) = [10] := by decide +kernel
theorem tl_mtext (zs : List Str) : tl (mtext zs) = (zs.map fun z => tl z ++ [10]).flatten := by
  unfold mtext
  rw [joinE, tl_S, List.map_map]
  congr 1
  apply List.map_congr_left
  intro z _
  show tl (z ++ ("\n" : Str)) = _
  rw [tl_app, tl_nl]
theorem parts_mtext (zs : List Str) (h : ∀ z ∈ zs, 10 ∉ tl z) : parts 10 (mtext zs) = zs ++ [("" : Str)] := by
  unfold parts
  rw [tl_mtext]
  induction zs with
  | nil => rfl
  | cons z zs ih =>
    rw [List.map_cons, List.flatten_cons, List.append_assoc]
    show (cut 10 [] (tl z ++ 10 :: (zs.map fun z => tl z ++ [10]).flatten)).map S = _
    rw [cut_line 10 _ _ _ (h z List.mem_cons_self), List.map_cons, ih fun y hy => h y (List.mem_cons_of_mem _ hy), List.nil_append, S_tl]
    rfl
/-- notes that hold -/
def Good (d : D) : Prop := ∃ xs, d = .tup xs ∧ pdB xs = true
theorem scan_good : ∀ (ds : List D) (k : Int) (acc : List D), (∀ d ∈ ds, Good d) → scan k (ds.map fun d => lineOf (rowOf d)) acc = (acc ++ ds, none)
  | [], k, acc, _ => by simp [scan]
  | d :: ds, k, acc, h => by
    obtain ⟨xs, rfl, hp⟩ := h d List.mem_cons_self
    rw [List.map_cons]
    unfold scan
    have e : lineD (lineOf (rowOf (.tup xs))) = .tup xs := line_back hp
    rw [e]
    simp only []
    rw [scan_good ds _ _ fun y hy => h y (List.mem_cons_of_mem _ hy)]
    simp
def linesOf (ds : List D) : List Str := ds.map fun d => lineOf (rowOf d)
theorem good_line {d : D} (h : Good d) : Ok 18 (lineOf (rowOf d)) ∧ 10 ∉ tl (lineOf (rowOf d)) := by
  obtain ⟨xs, rfl, hp⟩ := h
  exact line_ok hp
theorem lines_good {ds : List D} (h : ∀ d ∈ ds, Good d) : ∀ z ∈ linesOf ds, Ok 18 z ∧ 10 ∉ tl z := fun z hz => by
  obtain ⟨d, hd, rfl⟩ := List.mem_map.mp hz
  exact good_line (h d hd)
theorem lrO_good {ds : List D} (h : ∀ d ∈ ds, Good d) : lrO (mtext (linesOf ds)) = (ds, .non) := by
  unfold lrO
  rw [parts_mtext _ fun z hz => (lines_good h z hz).2, List.dropLast_concat]
  have := scan_good ds 1 [] h
  unfold linesOf
  rw [this]
  simp
theorem scanT_good : ∀ (ds : List D) (k : Int) (acc : List Str), (∀ d ∈ ds, pdB (rowOf d) = true) → scanT k ds acc = (acc ++ ds.map (fun d => lineOf (rowOf d) ++ ("\n" : Str)), none)
  | [], k, acc, _ => by simp [scanT]
  | d :: ds, k, acc, h => by
    unfold scanT
    rw [if_pos (h d List.mem_cons_self), scanT_good ds _ _ fun y hy => h y (List.mem_cons_of_mem _ hy)]
    simp
theorem scanT_odd : ∀ (pre post : List D) (x : D) (k : Int) (acc : List Str), (∀ d ∈ pre, pdB (rowOf d) = true) → pdB (rowOf x) = false → (scanT k (pre ++ x :: post) acc).2 = some (k + pre.length)
  | [], post, x, k, acc, _, hx => by
    show (scanT k (x :: post) acc).2 = _
    unfold scanT
    rw [if_neg (by rw [hx]; exact Bool.false_ne_true)]
    simp
  | d :: pre, post, x, k, acc, h, hx => by
    show (scanT k (d :: (pre ++ x :: post)) acc).2 = _
    unfold scanT
    rw [if_pos (h d List.mem_cons_self), scanT_odd pre post x _ _ (fun y hy => h y (List.mem_cons_of_mem _ hy)) hx]
    congr 1
    rw [List.length_cons]
    omega
theorem dtR_good {ds : List D} (h : ∀ d ∈ ds, pdB (rowOf d) = true) : dtR ds = .ok (.sh (.str (mtext (linesOf ds)))) [none] := by
  unfold dtR
  rw [scanT_good ds 0 [] h]
  simp only []
  unfold mtext linesOf
  rw [List.nil_append, List.map_map]
  rfl
theorem dtR_odd {pre post : List D} {x : D} (h : ∀ d ∈ pre, pdB (rowOf d) = true) (hx : pdB (rowOf x) = false) : dtR (pre ++ x :: post) = .exc "BadDeed" [("index", .int pre.length)] [none] := by
  unfold dtR
  have := scanT_odd pre post x 0 [] h hx
  cases q : scanT 0 (pre ++ x :: post) [] with
  | mk a k =>
    rw [q] at this
    cases this
    simp
end L80

set_option Elab.async false
set_option linter.all false
set_option maxRecDepth 100000
set_option maxHeartbeats 4000000
namespace L80
open PySem PySem.Spec PyProof.Rows L2 Ow
/-! ### calls to which the stream is lent -/
theorem callL {g : Fn} {i : Nat} {m : M O} {e e1 : Sl} {o r ol0 ol ol' : O} (h0 : e[i]? = some (some ol0)) (h : m e = .ok o e1) (hi : e1[i]? = some (some ol)) (hg : g [ol, .sh o.er] = .ok r [some ol', none]) :
    mCall (fun os => if os.length = 2 then g os else .no) (slotM i fun _ => mConsL i (mConsV m (M.ret []))) e = .ok r (e1.set i (some ol')) := by
  unfold mCall
  have h1 : (slotM i fun _ => mConsL i (mConsV m (M.ret []))) e = .ok [.l i, .v o] e1 := by
    unfold slotM
    rw [h0]
    show (mConsL i (mConsV m (M.ret []))) e = _
    unfold mConsL mConsV
    rw [bind_ok (show (m.bind fun o => (M.ret []).bind fun as => M.ret (A1.v o :: as)) e = .ok [.v o] e1 by rw [bind_ok h]; rfl)]
    rfl
  rw [bind_ok h1]
  unfold mCallK takeA takeA takeA
  simp only [hi, Option.map_some, List.length_cons, List.length_nil, if_true, hg, putA, List.set_set]
theorem callL1 {g : Fn} {i : Nat} {e : Sl} {r ol ol' : O} (hi : e[i]? = some (some ol)) (hg : g [ol] = .ok r [some ol']) :
    mCall (fun os => if os.length = 1 then g os else .no) (slotM i fun _ => mConsL i (M.ret [])) e = .ok r (e.set i (some ol')) := by
  unfold mCall
  have h1 : (slotM i fun _ => mConsL i (M.ret [])) e = .ok [.l i] e := by
    unfold slotM
    rw [hi]
    rfl
  rw [bind_ok h1]
  unfold mCallK takeA takeA
  simp only [hi, Option.map_some, List.length_cons, List.length_nil, if_true, hg, putA, List.set_set]
theorem callL3 {g : Fn} {i : Nat} {m1 m2 : M O} {e e1 e2 : Sl} {o1 o2 r ol0 ol ol' : O} (h0 : e[i]? = some (some ol0)) (h : m1 e = .ok o1 e1) (h2 : m2 e1 = .ok o2 e2) (hi : e2[i]? = some (some ol)) (hg : g [ol, .sh o1.er, .sh o2.er] = .ok r [some ol', none, none]) :
    mCall (fun os => if os.length = 3 then g os else .no) (slotM i fun _ => mConsL i (mConsV m1 (mConsV m2 (M.ret [])))) e = .ok r (e2.set i (some ol')) := by
  unfold mCall
  have h1 : (slotM i fun _ => mConsL i (mConsV m1 (mConsV m2 (M.ret [])))) e = .ok [.l i, .v o1, .v o2] e2 := by
    unfold slotM
    rw [h0]
    show (mConsL i (mConsV m1 (mConsV m2 (M.ret [])))) e = _
    unfold mConsL mConsV
    rw [bind_ok (show (m1.bind fun o => (m2.bind fun o => (M.ret []).bind fun as => M.ret (A1.v o :: as)).bind fun as => M.ret (A1.v o :: as)) e = .ok [.v o1, .v o2] e2 by rw [bind_ok h, bind_ok (show (m2.bind fun o => (M.ret []).bind fun as => M.ret (A1.v o :: as)) e1 = .ok [.v o2] e2 by rw [bind_ok h2]; rfl)]; rfl)]
    rfl
  rw [bind_ok h1]
  unfold mCallK takeA takeA takeA takeA
  simp only [hi, Option.map_some, List.length_cons, List.length_nil, if_true, hg, putA, List.set_set]
theorem callV2 {g : Fn} {m1 m2 : M O} {e e1 e2 : Sl} {o1 o2 r : O} (h : m1 e = .ok o1 e1) (h2 : m2 e1 = .ok o2 e2) (hg : g [.sh o1.er, .sh o2.er] = .ok r [none, none]) :
    mCall (fun os => if os.length = 2 then g os else .no) (mConsV m1 (mConsV m2 (M.ret []))) e = .ok r e2 := by
  unfold mCall
  have h1 : (mConsV m1 (mConsV m2 (M.ret []))) e = .ok [.v o1, .v o2] e2 := by
    unfold mConsV
    rw [bind_ok h, bind_ok (show (m2.bind fun o => (M.ret []).bind fun as => M.ret (A1.v o :: as)) e1 = .ok [.v o2] e2 by rw [bind_ok h2]; rfl)]; rfl
  rw [bind_ok h1]
  unfold mCallK takeA takeA takeA
  simp only [Option.map_some, List.length_cons, List.length_nil, if_true, hg, putA]
theorem call1x {g : Fn} {m : M O} {e e1 : Sl} {o : O} {cl : Str} {fs : List (Str × D)} (h : m e = .ok o e1) (hg : g [.sh o.er] = .exc cl fs [none]) : mCall (fun os => if os.length = 1 then g os else .no) (mConsV m (M.ret [])) e = .exc cl fs e1 := by
  unfold mCall
  have h1 : mConsV m (M.ret []) e = .ok [.v o] e1 := by unfold mConsV; rw [bind_ok h]; rfl
  rw [bind_ok h1]
  unfold mCallK takeA takeA
  simp only [Option.map_some, List.length_cons, List.length_nil, if_true, hg]
  rfl
theorem Stm.mono {N N' : Int} {o : O} (h : Stm N o) (l : N ≤ N') : Stm N' o := by
  obtain ⟨ks, a, cnt, k, e, s⟩ := h
  exact ⟨ks, a, cnt, k, e, s.l, s.a0, s.c0, Int.le_trans s.cN l, s.k0, s.kP⟩
theorem lenIL (xs : List D) : lenF (.lst xs) = some (.sh (.int xs.length)) := rfl
theorem pick_ok (c : Cs) {N : Int} {o : O} (h : Stm N o) (hN : N ≤ 1000000) {xs : List D} (h1 : xs ≠ []) (h2 : xs.length < 1000000) : ∃ x o', b__law_pick (csUp c) [o, .sh (.lst xs)] = .ok (.sh x) [some o', none] ∧ x ∈ xs ∧ Stm (N + 1) o' := by
  have hp : 0 < xs.length := List.length_pos_iff.mpr h1
  obtain ⟨r, o', hb, r0, r1, hs⟩ := below_ok c h hN (many := xs.length) (by omega) (by omega)
  have hc : (csUp c)._law_below [o, .sh (.int xs.length)] = _ := hb
  obtain ⟨k, rfl⟩ : ∃ k : Nat, r = k := ⟨r.toNat, by omega⟩
  have hk : k < xs.length := by omega
  refine ⟨xs[k], o', ?_, List.getElem_mem hk, hs⟩
  refine fn_rt (e := [some o', some (.sh (.lst xs))]) (ret_ok (bin_ok (x := .sh (.lst xs)) (e1 := [some o, some (.sh (.lst xs))]) rfl (callL (e1 := [some o, some (.sh (.lst xs))]) (o := .sh (.int xs.length)) rfl rfl rfl hc) ?_))
  exact ixL (List.getElem?_eq_getElem hk)
/-! ### _law_mform -/
theorem abqz_l : listF (.str ("abqz" : Str)) = some (.lst ([D.str ("a" : Str), .str ("b" : Str), .str ("q" : Str), .str ("z" : Str)].map O.sh)) := by
  have e : listF (.str ("abqz" : Str)) = if ("abqz" : Str).length ≤ sizeLine then some (.lst ((signsD ("abqz" : Str)).map .sh)) else none := rfl
  rw [e, if_pos (by decide +kernel)]
  rfl
theorem abqz_let {x : D} (h : x ∈ [D.str ("a" : Str), .str ("b" : Str), .str ("q" : Str), .str ("z" : Str)]) : letB x = true := by
  simp only [List.mem_cons, List.not_mem_nil, or_false] at h
  rcases h with rfl | rfl | rfl | rfl <;> decide +kernel
theorem num_in {lo hi k : Int} (h0 : lo ≤ k) (h : k ≤ hi) : numB lo hi (.int k) = true := by
  show (decide (lo ≤ k) && decide (k ≤ hi)) = true
  rw [decide_eq_true h0, decide_eq_true h]; rfl
theorem pd_hear {l y : D} (h1 : letB l = true) (h2 : numB 0 3 y = true) : pdB [.str hearS, l, y] = true := by
  show (decide (hearS = hearS) && (letB l && numB 0 3 y)) = true
  rw [h1, h2, decide_eq_true rfl]; rfl
theorem pd_tell {y : D} (h2 : numB 0 5 y = true) : pdB [.str tellS, y] = true := by
  show (decide (tellS = tellS) && numB 0 5 y) = true
  rw [h2, decide_eq_true rfl]; rfl
theorem pd_fresh : pdB [.str freshS] = true := by
  show decide (freshS = freshS) = true
  rw [decide_eq_true rfl]
theorem mform_ok (c : Cs) {N : Int} {o : O} (h : Stm N o) (hN : N + 4 ≤ 1000000) : ∃ d o', b__law_mform (csUp (csUp c)) [o] = .ok (.sh d) [some o'] ∧ Good d ∧ Stm (N + 4) o' := by
  obtain ⟨l, o1, p1, l1, t1⟩ := pick_ok c h (by omega) (xs := [D.str ("a" : Str), .str ("b" : Str), .str ("q" : Str), .str ("z" : Str)]) (by simp) (by simp)
  obtain ⟨r2, o2, p2, r20, r21, t2⟩ := below_ok (csUp c) t1 (by omega) (many := 4) (by omega) (by omega)
  obtain ⟨r3, o3, p3, r30, r31, t3⟩ := below_ok (csUp c) t2 (by omega) (many := 6) (by omega) (by omega)
  have hl := abqz_let l1
  obtain ⟨d, o4, p4, d1, t4⟩ := pick_ok c t3 (by omega) (xs := [D.tup [.str hearS, l, .int r2], .tup [.str hearS, l, .int 3], .tup [.str tellS, .int r3], .tup [.str freshS]]) (by simp) (by simp)
  refine ⟨d, o4, ?_, ?_, t4.mono (by omega)⟩
  · have q1 : (csUp (csUp c))._law_pick [o, .sh (.lst [D.str ("a" : Str), .str ("b" : Str), .str ("q" : Str), .str ("z" : Str)])] = _ := p1
    have q2 : (csUp (csUp c))._law_below [o1, .sh (.int 4)] = _ := p2
    have q3 : (csUp (csUp c))._law_below [o2, .sh (.int 6)] = _ := p3
    have q4 : (csUp (csUp c))._law_pick [o3, .sh (.lst [D.tup [.str hearS, l, .int r2], .tup [.str hearS, l, .int 3], .tup [.str tellS, .int r3], .tup [.str freshS]])] = _ := p4
    have z3 : ∀ n, n ≤ 4 → n ≤ sizeLine := fun n hn => by rw [sizeLine_v]; omega
    refine fn_rt (e := [some o4, some (.sh l)]) ((seq_nx (e1 := [some o1, some (.sh l)]) (asg_ok (e1 := [some o1, none]) (o := .sh l) (callL (o := .lst ([D.str ("a" : Str), .str ("b" : Str), .str ("q" : Str), .str ("z" : Str)].map O.sh)) (e1 := [some o, none]) rfl (cb_ok (os := [.sh (.str ("abqz" : Str))]) rfl abqz_l) rfl q1) rfl)).trans (ret_ok ?_))
    refine callL (e1 := [some o3, some (.sh l)]) (o := .lst [.tup [.sh (.str hearS), .sh l, .sh (.int r2)], .tup [.sh (.str hearS), .sh l, .sh (.int 3)], .tup [.sh (.str tellS), .sh (.int r3)], .tup [.sh (.str freshS)]]) rfl ?_ rfl q4
    refine lst_ok (cons_ok (tup_ok (e1 := [some o2, some (.sh l)]) (os := [.sh (.str hearS), .sh l, .sh (.int r2)]) (cons_ok nil_ok (cons_ok (e1 := [some o1, some (.sh l)]) (o := .sh l) rfl (cons_ok (callL (e1 := [some o1, some (.sh l)]) (o := .sh (.int 4)) rfl rfl rfl q2) nil_ok))) (z3 _ (by simp))) (cons_ok (tup_ok (e1 := [some o2, some (.sh l)]) (os := [.sh (.str hearS), .sh l, .sh (.int 3)]) rfl (z3 _ (by simp))) (cons_ok (tup_ok (e1 := [some o3, some (.sh l)]) (os := [.sh (.str tellS), .sh (.int r3)]) (cons_ok nil_ok (cons_ok (callL (e1 := [some o2, some (.sh l)]) (o := .sh (.int 6)) rfl rfl rfl q3) nil_ok)) (z3 _ (by simp))) (cons_ok (tup_ok (os := [.sh (.str freshS)]) rfl (z3 _ (by simp))) nil_ok)))) (z3 _ (by simp))
  · simp only [List.mem_cons, List.not_mem_nil, or_false] at d1
    rcases d1 with rfl | rfl | rfl | rfl
    · exact ⟨_, rfl, pd_hear hl (num_in r20 (by omega))⟩
    · exact ⟨_, rfl, pd_hear hl (num_in (by omega) (by omega))⟩
    · exact ⟨_, rfl, pd_tell (num_in r30 (by omega))⟩
    · exact ⟨_, rfl, pd_fresh⟩
/-! ### comprehensions that draw from the stream -/
def All2 (P : D → D → Prop) : List D → List D → Prop
  | [], [] => True
  | x :: xs, y :: ys => P x y ∧ All2 P xs ys
  | _, _ => False
theorem All2.len {P : D → D → Prop} : ∀ {xs ys : List D}, All2 P xs ys → xs.length = ys.length
  | [], [], _ => rfl
  | x :: xs, y :: ys, h => by simp [All2.len h.2]
  | [], y :: ys, h => h.elim
  | x :: xs, [], h => h.elim
theorem comp_st {vs : List Nat} {f : O → Sl → Option Sl} {me : M O} (E : O → Sl) (P : D → D → Prop) (w B : Int) (hw : 0 ≤ w) : ∀ (ds : List D) (acc : List O) (N : Int) (o : O), Stm N o → N + w * ds.length ≤ B →
    (∀ d ∈ ds, ∀ N o, Stm N o → N + w ≤ B → ∃ e1 r e3 o', f (.sh d) (E o) = some e1 ∧ me e1 = .ok r e3 ∧ wipeE e3 vs = E o' ∧ P d r.er ∧ Stm (N + w) o') →
    ∃ rs o', mLoop vs true f (M.ret true) me ds acc (E o) = .ok (acc ++ rs.map O.sh) (E o') ∧ All2 P ds rs ∧ Stm (N + w * ds.length) o'
  | [], acc, N, o, hs, hB, _ => ⟨[], o, by simp [mLoop, M.ret], trivial, hs.mono (by simp)⟩
  | d :: ds, acc, N, o, hs, hB, h => by
    have hmul : w * ((d :: ds).length : Nat) = w + w * (ds.length : Nat) := by
      rw [List.length_cons, Int.natCast_add, Int.mul_add]; simp; omega
    have hnn : 0 ≤ w * (ds.length : Int) := Int.mul_nonneg hw (by omega)
    obtain ⟨e1, r, e3, o1, h1, h2, h3, h4, h5⟩ := h d List.mem_cons_self N o hs (by omega)
    obtain ⟨rs, o', g1, g2, g3⟩ := comp_st (vs := vs) (f := f) (me := me) E P w B hw ds (acc ++ [.sh r.er]) (N + w) o1 h5 (by omega) fun d' hd' => h d' (List.mem_cons_of_mem _ hd')
    refine ⟨r.er :: rs, o', ?_, ⟨h4, g2⟩, g3.mono (by omega)⟩
    unfold mLoop
    rw [h1]
    simp only [M.ret]
    rw [h2]
    simp only []
    rw [h3]
    have e : frz true r = .sh r.er := rfl
    rw [e, g1]
    simp
theorem compS {vs : List Nat} {f : O → Sl → Option Sl} {me : M O} (E : O → Sl) (P : D → D → Prop) (w B : Int) (hw : 0 ≤ w) {ds : List D} {N : Int} {o : O} {e : Sl} (hs : Stm N o) (hB : N + w * ds.length ≤ B) (he : wipeE e vs = E o) (hv : vs.all (fun v => decide (v < e.length)) = true)
    (h : ∀ d ∈ ds, ∀ N o, Stm N o → N + w ≤ B → ∃ e1 r e3 o', f (.sh d) (E o) = some e1 ∧ me e1 = .ok r e3 ∧ wipeE e3 vs = E o' ∧ P d r.er ∧ Stm (N + w) o') :
    ∃ rs o', mCompK vs true f (M.ret true) me ds e = .ok (.lst (rs.map O.sh)) (restE e (E o') vs) ∧ All2 P ds rs ∧ Stm (N + w * ds.length) o' := by
  obtain ⟨rs, o', g1, g2, g3⟩ := comp_st (vs := vs) (f := f) (me := me) E P w B hw ds [] N o hs hB h
  refine ⟨rs, o', ?_, g2, g3⟩
  unfold mCompK
  rw [he, g1]
  simp only [List.nil_append]
  rw [if_pos hv]
end L80

set_option Elab.async false
set_option linter.all false
set_option maxRecDepth 100000
set_option maxHeartbeats 4000000
namespace L80
open PySem PySem.Spec PyProof.Rows L2 Ow
/-! ### _law_loose -/
theorem flat_ty {n : Nat} {x : D} (h : Flat n x) : ∃ t, x.ty = some t ∧ t.sub .dict = false ∧ (t.sub .list || t.sub .tuple) = false := by
  cases x <;> first | exact h.elim | exact ⟨_, rfl, rfl, rfl⟩
theorem loose_flat (c : Cs) {n : Nat} {x : D} (h : Flat n x) (o : O) : b__law_loose c [o, .sh x] = .ok (.sh x) [some o, none] := by
  obtain ⟨t, h1, h2, h3⟩ := flat_ty h
  have es2 : (2 : Nat) ≤ sizeLine := by decide
  unfold b__law_loose m__law_loose
  simp only [bodyFn, Ow.back, mSeq, mIf, M.bind, M.ret, M.no, slotM, mName, mMove, mKid, O.kid, mBin, ofOpt, ofOptB, ofG, mAsg, gM, gSet, gPut, frz, mRet, mExpr, mTst, mTru, mNotB, mAnd, mOr, mAndV, mOrV, mNotV, mNmTru, mLenNm, mCB, c1, mCons, mUn, mLst, mTup, mPart, mSl, O.er, O.ers, O.asB, addF, addI, subI, mulF, mulI, modI, fdivI, powI, ltI, leI, gtI, geI, ii0, iiF, eqF, neF, intF_int, intF_bl, D.asI, lenF, mNeNil, O.neNil, mKidPop, O.kidPop, isNF, notNF, D.isN, mNeg, mConsV, mConsL, mConsW, mCall, mCallK, takeA, putA, mCallP, mCallPK, peekA, List.map_cons, List.map_nil, List.cons_append, List.nil_append, List.replicate, List.getElem?_cons_zero, List.getElem?_cons_succ, List.getElem?_nil, List.set_cons_zero, List.set_cons_succ, List.set_nil, List.length_cons, List.length_nil, List.length_set, Option.map_some, Option.map_none, Option.bind_some, Option.bind_none, Nat.reduceAdd, Nat.reduceSub, Nat.reduceLT, Nat.reduceLeDiff, Nat.lt_add_one, if_true, if_false, reduceIte, Bool.false_eq_true, decide_true, decide_false, Bool.and_true, Bool.true_and, Bool.and_false, Bool.false_and, Bool.not_true, Bool.not_false, List.range_succ, List.range_zero, List.mem_cons, List.not_mem_nil, or_false, or_true, true_or, false_or, List.getD_cons_zero, List.getD_cons_succ, List.map_append, Nat.one_ne_zero, Nat.reduceEqDiff, reduceCtorEq, eq_self,isi_dict, isiLT, h1, h2, h3, tru_bl, es2]
theorem row_ty {d : D} {xs : List D} (hd : d = .lst xs ∨ d = .tup xs) : ∃ t, d.ty = some t ∧ t.sub .dict = false ∧ (t.sub .list || t.sub .tuple) = true ∧ d.walk = some xs := by
  rcases hd with rfl | rfl <;> exact ⟨_, rfl, rfl, rfl, rfl⟩
theorem loose_gen (c : Cs) (P : D → D → Prop) (w B : Int) (hw : 0 ≤ w) {N : Int} {o : O} (hs : Stm N o) {xs : List D} {d : D} (hd : d = .lst xs ∨ d = .tup xs) (hB : N + w * xs.length + 1 ≤ B) (hB2 : B ≤ 1000000)
    (hi : ∀ x ∈ xs, ∀ N o, Stm N o → N + w ≤ B → ∃ y o', b__law_loose c [o, .sh x] = .ok (.sh y) [some o', none] ∧ P x y ∧ Stm (N + w) o') :
    ∃ d' ys o', b__law_loose (csUp c) [o, .sh d] = .ok (.sh d') [some o', none] ∧ (d' = .lst ys ∨ d' = .tup ys) ∧ All2 P xs ys ∧ Stm (N + w * xs.length + 1) o' := by
  obtain ⟨t, h1, h2, h3, h4⟩ := row_ty hd
  have es2 : (2 : Nat) ≤ sizeLine := by decide
  obtain ⟨ys, o1, g1, g2, g3⟩ := compS (vs := [4]) (f := gSet 4 true) (me := mCall (fun os => if os.length = 2 then (csUp c)._law_loose os else .no) (slotM 0 fun _ => mConsL 0 (mConsV (mName 4) (M.ret [])))) (fun o => [some o, some (.sh d), none, none, none]) P w B hw (ds := xs) (e := [some o, some (.sh d), none, none, none]) hs (by omega) rfl rfl fun x hx N o hN hB => by
    obtain ⟨y, o', q1, q2, q3⟩ := hi x hx N o hN hB
    have q : (csUp c)._law_loose [o, .sh x] = _ := q1
    exact ⟨[some o, some (.sh d), none, none, some (.sh x)], .sh y, [some o', some (.sh d), none, none, some (.sh x)], o', rfl, callL (e1 := [some o, some (.sh d), none, none, some (.sh x)]) (o := .sh x) rfl rfl rfl q, rfl, q2, q3⟩
  obtain ⟨r, o2, k1, k2, k3, k4⟩ := below_ok c g3 (by omega) (many := 2) (by omega) (by omega)
  have kb : (csUp c)._law_below [o1, .sh (.int 2)] = _ := k1
  have s1 : mIf (mTru (mCB isiF (mCons (mName 1) (mCons (M.ret (.sh (tyD .dict))) (M.ret []))))) (M.no : M Fl) (M.ret Fl.nx) [some o, some (.sh d), none, none, none] = .ok Fl.nx [some o, some (.sh d), none, none, none] := by simp only [bodyFn, Ow.back, mSeq, mIf, M.bind, M.ret, M.no, slotM, mName, mMove, mKid, O.kid, mBin, ofOpt, ofOptB, ofG, mAsg, gM, gSet, gPut, frz, mRet, mExpr, mTst, mTru, mNotB, mAnd, mOr, mAndV, mOrV, mNotV, mNmTru, mLenNm, mCB, c1, mCons, mUn, mLst, mTup, mPart, mSl, O.er, O.ers, O.asB, addF, addI, subI, mulF, mulI, modI, fdivI, powI, ltI, leI, gtI, geI, ii0, iiF, eqF, neF, intF_int, intF_bl, D.asI, lenF, mNeNil, O.neNil, mKidPop, O.kidPop, isNF, notNF, D.isN, mNeg, mConsV, mConsL, mConsW, mCall, mCallK, takeA, putA, mCallP, mCallPK, peekA, List.map_cons, List.map_nil, List.cons_append, List.nil_append, List.replicate, List.getElem?_cons_zero, List.getElem?_cons_succ, List.getElem?_nil, List.set_cons_zero, List.set_cons_succ, List.set_nil, List.length_cons, List.length_nil, List.length_set, Option.map_some, Option.map_none, Option.bind_some, Option.bind_none, Nat.reduceAdd, Nat.reduceSub, Nat.reduceLT, Nat.reduceLeDiff, Nat.lt_add_one, if_true, if_false, reduceIte, Bool.false_eq_true, decide_true, decide_false, Bool.and_true, Bool.true_and, Bool.and_false, Bool.false_and, Bool.not_true, Bool.not_false, List.range_succ, List.range_zero, List.mem_cons, List.not_mem_nil, or_false, or_true, true_or, false_or, List.getD_cons_zero, List.getD_cons_succ, List.map_append, Nat.one_ne_zero, Nat.reduceEqDiff, reduceCtorEq, eq_self,isi_dict, h1, h2, tru_bl]
  have s2 : mIf (mNotB (mTru (mCB isiF (mCons (mName 1) (mCons (mTup (mCons (M.ret (.sh (tyD .list))) (mCons (M.ret (.sh (tyD .tuple))) (M.ret [])))) (M.ret [])))))) (mRet (mName 1)) (M.ret .nx) [some o, some (.sh d), none, none, none] = .ok .nx [some o, some (.sh d), none, none, none] := by simp only [bodyFn, Ow.back, mSeq, mIf, M.bind, M.ret, M.no, slotM, mName, mMove, mKid, O.kid, mBin, ofOpt, ofOptB, ofG, mAsg, gM, gSet, gPut, frz, mRet, mExpr, mTst, mTru, mNotB, mAnd, mOr, mAndV, mOrV, mNotV, mNmTru, mLenNm, mCB, c1, mCons, mUn, mLst, mTup, mPart, mSl, O.er, O.ers, O.asB, addF, addI, subI, mulF, mulI, modI, fdivI, powI, ltI, leI, gtI, geI, ii0, iiF, eqF, neF, intF_int, intF_bl, D.asI, lenF, mNeNil, O.neNil, mKidPop, O.kidPop, isNF, notNF, D.isN, mNeg, mConsV, mConsL, mConsW, mCall, mCallK, takeA, putA, mCallP, mCallPK, peekA, List.map_cons, List.map_nil, List.cons_append, List.nil_append, List.replicate, List.getElem?_cons_zero, List.getElem?_cons_succ, List.getElem?_nil, List.set_cons_zero, List.set_cons_succ, List.set_nil, List.length_cons, List.length_nil, List.length_set, Option.map_some, Option.map_none, Option.bind_some, Option.bind_none, Nat.reduceAdd, Nat.reduceSub, Nat.reduceLT, Nat.reduceLeDiff, Nat.lt_add_one, if_true, if_false, reduceIte, Bool.false_eq_true, decide_true, decide_false, Bool.and_true, Bool.true_and, Bool.and_false, Bool.false_and, Bool.not_true, Bool.not_false, List.range_succ, List.range_zero, List.mem_cons, List.not_mem_nil, or_false, or_true, true_or, false_or, List.getD_cons_zero, List.getD_cons_succ, List.map_append, Nat.one_ne_zero, Nat.reduceEqDiff, reduceCtorEq, eq_self,isiLT, h1, h3, tru_bl, es2]
  have hz : (O.lst (ys.map O.sh)).er = .lst ys := by
    show D.lst (O.ers _) = _
    rw [O.ers_sh]
  have s3 : mAsg (mComp [4] true (mWalk (mName 1)) (gSet 4 true) (M.ret true) (mCall (fun os => if os.length = 2 then (csUp c)._law_loose os else .no) (slotM 0 fun _ => mConsL 0 (mConsV (mName 4) (M.ret []))))) (gSet 3 true) [some o, some (.sh d), none, none, none] = .ok .nx [some o1, some (.sh d), none, some (.sh (.lst ys)), none] :=
    asg_ok (comp_ok (walk_ok (x := .sh d) (e1 := [some o, some (.sh d), none, none, none]) rfl h4) g1) (by show some [some o1, some (.sh d), none, some (.sh (O.lst (ys.map O.sh)).er), none] = _; rw [hz])
  have hb : mBin eqF (mCall (fun os => if os.length = 2 then (csUp c)._law_below os else .no) (slotM 0 fun _ => mConsL 0 (mConsV (M.ret (.sh (.int 2))) (M.ret [])))) (M.ret (.sh (.int 0))) [some o1, some (.sh d), none, some (.sh (.lst ys)), none] = .ok (.sh (.bl (r == 0))) [some o2, some (.sh d), none, some (.sh (.lst ys)), none] :=
    bin_ok (callL (e1 := [some o1, some (.sh d), none, some (.sh (.lst ys)), none]) (o := .sh (.int 2)) rfl rfl rfl kb) nil_ok (by simp only [bodyFn, Ow.back, mSeq, mIf, M.bind, M.ret, M.no, slotM, mName, mMove, mKid, O.kid, mBin, ofOpt, ofOptB, ofG, mAsg, gM, gSet, gPut, frz, mRet, mExpr, mTst, mTru, mNotB, mAnd, mOr, mAndV, mOrV, mNotV, mNmTru, mLenNm, mCB, c1, mCons, mUn, mLst, mTup, mPart, mSl, O.er, O.ers, O.asB, addF, addI, subI, mulF, mulI, modI, fdivI, powI, ltI, leI, gtI, geI, ii0, iiF, eqF, neF, intF_int, intF_bl, D.asI, lenF, mNeNil, O.neNil, mKidPop, O.kidPop, isNF, notNF, D.isN, mNeg, mConsV, mConsL, mConsW, mCall, mCallK, takeA, putA, mCallP, mCallPK, peekA, List.map_cons, List.map_nil, List.cons_append, List.nil_append, List.replicate, List.getElem?_cons_zero, List.getElem?_cons_succ, List.getElem?_nil, List.set_cons_zero, List.set_cons_succ, List.set_nil, List.length_cons, List.length_nil, List.length_set, Option.map_some, Option.map_none, Option.bind_some, Option.bind_none, Nat.reduceAdd, Nat.reduceSub, Nat.reduceLT, Nat.reduceLeDiff, Nat.lt_add_one, if_true, if_false, reduceIte, Bool.false_eq_true, decide_true, decide_false, Bool.and_true, Bool.true_and, Bool.and_false, Bool.false_and, Bool.not_true, Bool.not_false, List.range_succ, List.range_zero, List.mem_cons, List.not_mem_nil, or_false, or_true, true_or, false_or, List.getD_cons_zero, List.getD_cons_succ, List.map_append, Nat.one_ne_zero, Nat.reduceEqDiff, reduceCtorEq, eq_self,eqb_int, eqv_int])
  cases hr : r == 0 with
  | true =>
    rw [hr] at hb
    refine ⟨.lst ys, ys, o2, ?_, .inl rfl, g2, k4⟩
    exact fn_rt (e := [some o2, some (.sh d), none, some (.sh (.lst ys)), none]) ((seq_nx s1).trans ((seq_nx s2).trans ((seq_nx s3).trans (ret_ok ((if_t (tst_ok hb rfl)).trans rfl)))))
  | false =>
    rw [hr] at hb
    refine ⟨.tup ys, ys, o2, ?_, .inr rfl, g2, k4⟩
    exact fn_rt (e := [some o2, some (.sh d), none, some (.sh (.lst ys)), none]) ((seq_nx s1).trans ((seq_nx s2).trans ((seq_nx s3).trans (ret_ok ((if_f (tst_ok hb rfl)).trans rfl)))))
theorem All2.eq : ∀ {xs ys : List D}, All2 (fun x y => y = x) xs ys → ys = xs
  | [], [], _ => rfl
  | x :: xs, y :: ys, h => by rw [h.1, All2.eq h.2]
  | [], y :: ys, h => h.elim
  | x :: xs, [], h => h.elim
theorem pd_flat {xs : List D} (h : pdB xs = true) : ∀ x ∈ xs, Flat 5 x := by
  have l1 : Ok 5 hearS := (okS hearS (by decide +kernel)).mono (by decide +kernel)
  have l2 : Ok 5 tellS := (okS tellS (by decide +kernel)).mono (by decide +kernel)
  have l3 : Ok 5 freshS := (okS freshS (by decide +kernel)).mono (by decide +kernel)
  intro x hx
  rcases pd_items h with ⟨ch, k, rfl, hc, k1, k2⟩ | ⟨k, rfl, k1, k2⟩ | rfl
  · simp only [List.mem_cons, List.not_mem_nil, or_false] at hx
    rcases hx with rfl | rfl | rfl
    · exact l1
    · obtain ⟨q, e, q1, q2⟩ := let_tl hc
      exact ⟨by rw [letS_len hc]; omega, fun z hz => by rw [e] at hz; simp at hz; omega⟩
    · trivial
  · simp only [List.mem_cons, List.not_mem_nil, or_false] at hx
    rcases hx with rfl | rfl
    · exact l2
    · trivial
  · simp only [List.mem_cons, List.not_mem_nil, or_false] at hx
    subst hx
    exact l3
theorem loose_row (c : Cs) {N : Int} {o : O} (hs : Stm N o) {xs : List D} (hp : pdB xs = true) (hN : N + 1 ≤ 1000000) : ∃ y o', b__law_loose (csUp c) [o, .sh (.tup xs)] = .ok (.sh y) [some o', none] ∧ rowOf y = xs ∧ y.ty ≠ none ∧ Stm (N + 1) o' := by
  obtain ⟨d', ys, o', h1, h2, h3, h4⟩ := loose_gen c (fun x y => y = x) 0 1000000 (by omega) hs (d := .tup xs) (.inr rfl) (by omega) (by omega) fun x hx N o hN hB => ⟨x, o, loose_flat c (pd_flat hp x hx) o, rfl, hN.mono (by omega)⟩
  have := h3.eq
  subst this
  exact ⟨d', o', h1, by rcases h2 with rfl | rfl <;> rfl, by rcases h2 with rfl | rfl <;> exact fun z => (by cases z), h4.mono (by omega)⟩
/-- the flavours of a row of notes -/
theorem loose_deeds (c : Cs) {N : Int} {o : O} (hs : Stm N o) {ds : List D} (hg : ∀ d ∈ ds, Good d) (hl : N + ds.length + 1 ≤ 1000000) : ∃ d' ys o', b__law_loose (csUp (csUp c)) [o, .sh (.lst ds)] = .ok (.sh d') [some o', none] ∧ (d' = .lst ys ∨ d' = .tup ys) ∧ All2 (fun x y => rowOf y = rowOf x ∧ y.ty ≠ none) ds ys ∧ Stm (N + ds.length + 1) o' := by
  obtain ⟨d', ys, o', h1, h2, h3, h4⟩ := loose_gen (csUp c) (fun x y => rowOf y = rowOf x ∧ y.ty ≠ none) 1 1000000 (by omega) hs (d := .lst ds) (.inl rfl) (by omega) (by omega) fun x hx N o hN hB => by
    obtain ⟨xs, rfl, hp⟩ := hg x hx
    obtain ⟨y, o', q1, q2, q3, q4⟩ := loose_row c hN hp hB
    exact ⟨y, o', q1, ⟨q2, q3⟩, q4⟩
  exact ⟨d', ys, o', h1, h2, h3, h4.mono (by omega)⟩
end L80

set_option Elab.async false
set_option linter.all false
set_option maxRecDepth 100000
set_option maxHeartbeats 4000000
namespace L80
open PySem PySem.Spec PyProof.Rows L2 Ow
/-! ### _law_same -/
def Nest (n : Nat) : Nat → D → Prop
  | 0, d => Flat n d
  | k + 1, d => Flat n d ∨ ∃ xs, (d = .lst xs ∨ d = .tup xs) ∧ ∀ x ∈ xs, Nest n k x
def upN (c : Cs) : Nat → Cs
  | 0 => c
  | k + 1 => csUp (upN c k)
theorem eqv_non : PyData.eqv D.non.py D.non.py = true := by simp [D.py, PyData.eqv]
theorem same_flat (c : Cs) {n : Nat} {d : D} (h : Flat n d) : b__law_same c [.sh d, .sh d] = .ok (.sh (.bl true)) [none, none] := by
  have es2 : (2 : Nat) ≤ sizeLine := by decide
  unfold b__law_same m__law_same
  cases d with
  | lst _ => exact h.elim
  | tup _ => exact h.elim
  | dct _ _ => exact h.elim
  | gl _ => exact h.elim
  | int i => simp only [bodyFn, Ow.back, mSeq, mIf, M.bind, M.ret, M.no, slotM, mName, mMove, mKid, O.kid, mBin, ofOpt, ofOptB, ofG, mAsg, gM, gSet, gPut, frz, mRet, mExpr, mTst, mTru, mNotB, mAnd, mOr, mAndV, mOrV, mNotV, mNmTru, mLenNm, mCB, c1, mCons, mUn, mLst, mTup, mPart, mSl, O.er, O.ers, O.asB, addF, addI, subI, mulF, mulI, modI, fdivI, powI, ltI, leI, gtI, geI, ii0, iiF, eqF, neF, intF_int, intF_bl, D.asI, lenF, mNeNil, O.neNil, mKidPop, O.kidPop, isNF, notNF, D.isN, mNeg, mConsV, mConsL, mConsW, mCall, mCallK, takeA, putA, mCallP, mCallPK, peekA, List.map_cons, List.map_nil, List.cons_append, List.nil_append, List.replicate, List.getElem?_cons_zero, List.getElem?_cons_succ, List.getElem?_nil, List.set_cons_zero, List.set_cons_succ, List.set_nil, List.length_cons, List.length_nil, List.length_set, Option.map_some, Option.map_none, Option.bind_some, Option.bind_none, Nat.reduceAdd, Nat.reduceSub, Nat.reduceLT, Nat.reduceLeDiff, Nat.lt_add_one, if_true, if_false, reduceIte, Bool.false_eq_true, decide_true, decide_false, Bool.and_true, Bool.true_and, Bool.and_false, Bool.false_and, Bool.not_true, Bool.not_false, List.range_succ, List.range_zero, List.mem_cons, List.not_mem_nil, or_false, or_true, true_or, false_or, List.getD_cons_zero, List.getD_cons_succ, List.map_append, Nat.one_ne_zero, Nat.reduceEqDiff, reduceCtorEq, eq_self,isi_dict, isiLT, isi_int, isi_bool, isi_str, D.ty, Ty.sub, D.tru, tru_bl, es2, eqb_int, eqb_bl, eqv_int, eqv_bl, beq_self_eq_true, Bool.or_false]
  | bl i => simp only [bodyFn, Ow.back, mSeq, mIf, M.bind, M.ret, M.no, slotM, mName, mMove, mKid, O.kid, mBin, ofOpt, ofOptB, ofG, mAsg, gM, gSet, gPut, frz, mRet, mExpr, mTst, mTru, mNotB, mAnd, mOr, mAndV, mOrV, mNotV, mNmTru, mLenNm, mCB, c1, mCons, mUn, mLst, mTup, mPart, mSl, O.er, O.ers, O.asB, addF, addI, subI, mulF, mulI, modI, fdivI, powI, ltI, leI, gtI, geI, ii0, iiF, eqF, neF, intF_int, intF_bl, D.asI, lenF, mNeNil, O.neNil, mKidPop, O.kidPop, isNF, notNF, D.isN, mNeg, mConsV, mConsL, mConsW, mCall, mCallK, takeA, putA, mCallP, mCallPK, peekA, List.map_cons, List.map_nil, List.cons_append, List.nil_append, List.replicate, List.getElem?_cons_zero, List.getElem?_cons_succ, List.getElem?_nil, List.set_cons_zero, List.set_cons_succ, List.set_nil, List.length_cons, List.length_nil, List.length_set, Option.map_some, Option.map_none, Option.bind_some, Option.bind_none, Nat.reduceAdd, Nat.reduceSub, Nat.reduceLT, Nat.reduceLeDiff, Nat.lt_add_one, if_true, if_false, reduceIte, Bool.false_eq_true, decide_true, decide_false, Bool.and_true, Bool.true_and, Bool.and_false, Bool.false_and, Bool.not_true, Bool.not_false, List.range_succ, List.range_zero, List.mem_cons, List.not_mem_nil, or_false, or_true, true_or, false_or, List.getD_cons_zero, List.getD_cons_succ, List.map_append, Nat.one_ne_zero, Nat.reduceEqDiff, reduceCtorEq, eq_self,isi_dict, isiLT, isi_int, isi_bool, isi_str, D.ty, Ty.sub, D.tru, tru_bl, es2, eqb_int, eqb_bl, eqv_int, eqv_bl, beq_self_eq_true, Bool.or_false]
  | non => simp only [bodyFn, Ow.back, mSeq, mIf, M.bind, M.ret, M.no, slotM, mName, mMove, mKid, O.kid, mBin, ofOpt, ofOptB, ofG, mAsg, gM, gSet, gPut, frz, mRet, mExpr, mTst, mTru, mNotB, mAnd, mOr, mAndV, mOrV, mNotV, mNmTru, mLenNm, mCB, c1, mCons, mUn, mLst, mTup, mPart, mSl, O.er, O.ers, O.asB, addF, addI, subI, mulF, mulI, modI, fdivI, powI, ltI, leI, gtI, geI, ii0, iiF, eqF, neF, intF_int, intF_bl, D.asI, lenF, mNeNil, O.neNil, mKidPop, O.kidPop, isNF, notNF, D.isN, mNeg, mConsV, mConsL, mConsW, mCall, mCallK, takeA, putA, mCallP, mCallPK, peekA, List.map_cons, List.map_nil, List.cons_append, List.nil_append, List.replicate, List.getElem?_cons_zero, List.getElem?_cons_succ, List.getElem?_nil, List.set_cons_zero, List.set_cons_succ, List.set_nil, List.length_cons, List.length_nil, List.length_set, Option.map_some, Option.map_none, Option.bind_some, Option.bind_none, Nat.reduceAdd, Nat.reduceSub, Nat.reduceLT, Nat.reduceLeDiff, Nat.lt_add_one, if_true, if_false, reduceIte, Bool.false_eq_true, decide_true, decide_false, Bool.and_true, Bool.true_and, Bool.and_false, Bool.false_and, Bool.not_true, Bool.not_false, List.range_succ, List.range_zero, List.mem_cons, List.not_mem_nil, or_false, or_true, true_or, false_or, List.getD_cons_zero, List.getD_cons_succ, List.map_append, Nat.one_ne_zero, Nat.reduceEqDiff, reduceCtorEq, eq_self,isi_dict, isiLT, isi_int, isi_bool, isi_str, D.ty, Ty.sub, D.tru, tru_bl, es2, Bool.or_false]
  | str s =>
    have he : (D.str s).eqb = true := Ok.eqb h
    simp only [bodyFn, Ow.back, mSeq, mIf, M.bind, M.ret, M.no, slotM, mName, mMove, mKid, O.kid, mBin, ofOpt, ofOptB, ofG, mAsg, gM, gSet, gPut, frz, mRet, mExpr, mTst, mTru, mNotB, mAnd, mOr, mAndV, mOrV, mNotV, mNmTru, mLenNm, mCB, c1, mCons, mUn, mLst, mTup, mPart, mSl, O.er, O.ers, O.asB, addF, addI, subI, mulF, mulI, modI, fdivI, powI, ltI, leI, gtI, geI, ii0, iiF, eqF, neF, intF_int, intF_bl, D.asI, lenF, mNeNil, O.neNil, mKidPop, O.kidPop, isNF, notNF, D.isN, mNeg, mConsV, mConsL, mConsW, mCall, mCallK, takeA, putA, mCallP, mCallPK, peekA, List.map_cons, List.map_nil, List.cons_append, List.nil_append, List.replicate, List.getElem?_cons_zero, List.getElem?_cons_succ, List.getElem?_nil, List.set_cons_zero, List.set_cons_succ, List.set_nil, List.length_cons, List.length_nil, List.length_set, Option.map_some, Option.map_none, Option.bind_some, Option.bind_none, Nat.reduceAdd, Nat.reduceSub, Nat.reduceLT, Nat.reduceLeDiff, Nat.lt_add_one, if_true, if_false, reduceIte, Bool.false_eq_true, decide_true, decide_false, Bool.and_true, Bool.true_and, Bool.and_false, Bool.false_and, Bool.not_true, Bool.not_false, List.range_succ, List.range_zero, List.mem_cons, List.not_mem_nil, or_false, or_true, true_or, false_or, List.getD_cons_zero, List.getD_cons_succ, List.map_append, Nat.one_ne_zero, Nat.reduceEqDiff, reduceCtorEq, eq_self,isi_dict, isiLT, isi_int, isi_bool, isi_str, D.ty, Ty.sub, D.tru, tru_bl, es2, he, eqb_bl, eqv_str, eqv_bl, beq_self_eq_true, Bool.or_false]
theorem bls_all : ∀ (xs : List D), (xs.map fun _ => D.bl true).mapM D.asBl = some (xs.map fun _ => true)
  | [] => rfl
  | x :: xs => by
    rw [List.map_cons, List.mapM_cons, bls_all xs]
    rfl
theorem zip_self (xs : List D) : zipD xs xs = xs.map fun x => D.tup [x, x] := by
  unfold zipD
  induction xs with
  | nil => rfl
  | cons x xs ih => simp [ih]
theorem same_row (c : Cs) {d : D} {xs : List D} (hd : d = .lst xs ∨ d = .tup xs) (h : ∀ x ∈ xs, b__law_same c [.sh x, .sh x] = .ok (.sh (.bl true)) [none, none]) : b__law_same (csUp c) [.sh d, .sh d] = .ok (.sh (.bl true)) [none, none] := by
  obtain ⟨t, h1, h2, h3, h4⟩ := row_ty hd
  have es2 : (2 : Nat) ≤ sizeLine := by decide
  have hlen : d.len = some xs.length := by rcases hd with rfl | rfl <;> rfl
  have hzip : zipR d d = some (zipD xs xs) := by rcases hd with rfl | rfl <;> rfl
  unfold b__law_same m__law_same
  have hk : mCompK [2, 3] true (gTupF [(2, true), (3, true)]) (M.ret true) (mCall (fun os => if os.length = 2 then (csUp c)._law_same os else .no) (mConsV (mName 2) (mConsV (mName 3) (M.ret [])))) (zipD xs xs) [some (.sh d), some (.sh d), none, none] = .ok (.lst ((zipD xs xs).map fun z => .sh ((fun _ => D.bl true) z))) [some (.sh d), some (.sh d), none, none] := by
    refine compK1 (e0 := [some (.sh d), some (.sh d), none, none]) (fun _ => D.bl true) rfl rfl rfl fun z hz => ?_
    rw [zip_self] at hz
    obtain ⟨x, hx, rfl⟩ := List.mem_map.mp hz
    have hs : (csUp c)._law_same [.sh x, .sh x] = _ := h x hx
    exact ⟨[some (.sh d), some (.sh d), some (.sh x), some (.sh x)], .sh (.bl true), [some (.sh d), some (.sh d), some (.sh x), some (.sh x)], rfl, callV2 (o1 := .sh x) (o2 := .sh x) (e1 := [some (.sh d), some (.sh d), some (.sh x), some (.sh x)]) rfl rfl hs, rfl, rfl⟩
  have ha : mCB (c1 allF) (mCons (mComp [2, 3] true (mZip (mName 0) (mName 1)) (gTupF [(2, true), (3, true)]) (M.ret true) (mCall (fun os => if os.length = 2 then (csUp c)._law_same os else .no) (mConsV (mName 2) (mConsV (mName 3) (M.ret []))))) (M.ret [])) [some (.sh d), some (.sh d), none, none] = .ok (.sh (.bl true)) [some (.sh d), some (.sh d), none, none] := by
    refine cb_ok (os := [_]) (cons_ok (comp_ok (ds := zipD xs xs) (e1 := [some (.sh d), some (.sh d), none, none]) ?_ hk) nil_ok) ?_
    · unfold mZip
      rw [bind_ok (show mName 0 _ = .ok (.sh d) [some (.sh d), some (.sh d), none, none] from rfl), bind_ok (show mName 1 _ = .ok (.sh d) [some (.sh d), some (.sh d), none, none] from rfl)]
      show ofG (zipR d d) _ = _
      rw [hzip]
      rfl
    · have e1 : (O.lst ((zipD xs xs).map fun z => O.sh ((fun _ => D.bl true) z))).er = .lst ((zipD xs xs).map fun _ => D.bl true) := by
        show D.lst (O.ers _) = _
        rw [O.ers_map, List.map_map]; rfl
      show allF ((O.lst ((zipD xs xs).map fun z => O.sh ((fun _ => D.bl true) z))).er) = _
      rw [e1]
      show (((zipD xs xs).map fun _ => D.bl true).mapM D.asBl).map (fun bs => O.sh (.bl (bs.all id))) = _
      rw [bls_all]
      simp
  have s1 : mIf (mOr (mTst (mBin neF (mCB isiF (mCons (mName 0) (mCons (M.ret (.sh (tyD .list))) (M.ret [])))) (mCB isiF (mCons (mName 1) (mCons (M.ret (.sh (tyD .list))) (M.ret [])))))) (mTst (mBin neF (mCB isiF (mCons (mName 0) (mCons (M.ret (.sh (tyD .tuple))) (M.ret [])))) (mCB isiF (mCons (mName 1) (mCons (M.ret (.sh (tyD .tuple))) (M.ret []))))))) (mRet (M.ret (.sh (.bl false)))) (M.ret Fl.nx) [some (.sh d), some (.sh d), none, none] = .ok Fl.nx [some (.sh d), some (.sh d), none, none] := by
    simp only [bodyFn, Ow.back, mSeq, mIf, M.bind, M.ret, M.no, slotM, mName, mMove, mKid, O.kid, mBin, ofOpt, ofOptB, ofG, mAsg, gM, gSet, gPut, frz, mRet, mExpr, mTst, mTru, mNotB, mAnd, mOr, mAndV, mOrV, mNotV, mNmTru, mLenNm, mCB, c1, mCons, mUn, mLst, mTup, mPart, mSl, O.er, O.ers, O.asB, addF, addI, subI, mulF, mulI, modI, fdivI, powI, ltI, leI, gtI, geI, ii0, iiF, eqF, neF, intF_int, intF_bl, D.asI, lenF, mNeNil, O.neNil, mKidPop, O.kidPop, isNF, notNF, D.isN, mNeg, mConsV, mConsL, mConsW, mCall, mCallK, takeA, putA, mCallP, mCallPK, peekA, List.map_cons, List.map_nil, List.cons_append, List.nil_append, List.replicate, List.getElem?_cons_zero, List.getElem?_cons_succ, List.getElem?_nil, List.set_cons_zero, List.set_cons_succ, List.set_nil, List.length_cons, List.length_nil, List.length_set, Option.map_some, Option.map_none, Option.bind_some, Option.bind_none, Nat.reduceAdd, Nat.reduceSub, Nat.reduceLT, Nat.reduceLeDiff, Nat.lt_add_one, if_true, if_false, reduceIte, Bool.false_eq_true, decide_true, decide_false, Bool.and_true, Bool.true_and, Bool.and_false, Bool.false_and, Bool.not_true, Bool.not_false, List.range_succ, List.range_zero, List.mem_cons, List.not_mem_nil, or_false, or_true, true_or, false_or, List.getD_cons_zero, List.getD_cons_succ, List.map_append, Nat.one_ne_zero, Nat.reduceEqDiff, reduceCtorEq, eq_self,isi_list, isi_tuple, h1, eqb_bl, eqv_bl, beq_self_eq_true]
  have s0 : mTru (mCB isiF (mCons (mName 1) (mCons (mTup (mCons (M.ret (.sh (tyD .list))) (mCons (M.ret (.sh (tyD .tuple))) (M.ret [])))) (M.ret [])))) [some (.sh d), some (.sh d), none, none] = .ok true [some (.sh d), some (.sh d), none, none] := by
    simp only [bodyFn, Ow.back, mSeq, mIf, M.bind, M.ret, M.no, slotM, mName, mMove, mKid, O.kid, mBin, ofOpt, ofOptB, ofG, mAsg, gM, gSet, gPut, frz, mRet, mExpr, mTst, mTru, mNotB, mAnd, mOr, mAndV, mOrV, mNotV, mNmTru, mLenNm, mCB, c1, mCons, mUn, mLst, mTup, mPart, mSl, O.er, O.ers, O.asB, addF, addI, subI, mulF, mulI, modI, fdivI, powI, ltI, leI, gtI, geI, ii0, iiF, eqF, neF, intF_int, intF_bl, D.asI, lenF, mNeNil, O.neNil, mKidPop, O.kidPop, isNF, notNF, D.isN, mNeg, mConsV, mConsL, mConsW, mCall, mCallK, takeA, putA, mCallP, mCallPK, peekA, List.map_cons, List.map_nil, List.cons_append, List.nil_append, List.replicate, List.getElem?_cons_zero, List.getElem?_cons_succ, List.getElem?_nil, List.set_cons_zero, List.set_cons_succ, List.set_nil, List.length_cons, List.length_nil, List.length_set, Option.map_some, Option.map_none, Option.bind_some, Option.bind_none, Nat.reduceAdd, Nat.reduceSub, Nat.reduceLT, Nat.reduceLeDiff, Nat.lt_add_one, if_true, if_false, reduceIte, Bool.false_eq_true, decide_true, decide_false, Bool.and_true, Bool.true_and, Bool.and_false, Bool.false_and, Bool.not_true, Bool.not_false, List.range_succ, List.range_zero, List.mem_cons, List.not_mem_nil, or_false, or_true, true_or, false_or, List.getD_cons_zero, List.getD_cons_succ, List.map_append, Nat.one_ne_zero, Nat.reduceEqDiff, reduceCtorEq, eq_self,isiLT, h1, h3, tru_bl, es2]
  have hq : mBin eqF (mLenNm 0) (mLenNm 1) [some (.sh d), some (.sh d), none, none] = .ok (.sh (.bl true)) [some (.sh d), some (.sh d), none, none] := by
    simp only [bodyFn, Ow.back, mSeq, mIf, M.bind, M.ret, M.no, slotM, mName, mMove, mKid, O.kid, mBin, ofOpt, ofOptB, ofG, mAsg, gM, gSet, gPut, frz, mRet, mExpr, mTst, mTru, mNotB, mAnd, mOr, mAndV, mOrV, mNotV, mNmTru, mLenNm, mCB, c1, mCons, mUn, mLst, mTup, mPart, mSl, O.er, O.ers, O.asB, addF, addI, subI, mulF, mulI, modI, fdivI, powI, ltI, leI, gtI, geI, ii0, iiF, eqF, neF, intF_int, intF_bl, D.asI, lenF, mNeNil, O.neNil, mKidPop, O.kidPop, isNF, notNF, D.isN, mNeg, mConsV, mConsL, mConsW, mCall, mCallK, takeA, putA, mCallP, mCallPK, peekA, List.map_cons, List.map_nil, List.cons_append, List.nil_append, List.replicate, List.getElem?_cons_zero, List.getElem?_cons_succ, List.getElem?_nil, List.set_cons_zero, List.set_cons_succ, List.set_nil, List.length_cons, List.length_nil, List.length_set, Option.map_some, Option.map_none, Option.bind_some, Option.bind_none, Nat.reduceAdd, Nat.reduceSub, Nat.reduceLT, Nat.reduceLeDiff, Nat.lt_add_one, if_true, if_false, reduceIte, Bool.false_eq_true, decide_true, decide_false, Bool.and_true, Bool.true_and, Bool.and_false, Bool.false_and, Bool.not_true, Bool.not_false, List.range_succ, List.range_zero, List.mem_cons, List.not_mem_nil, or_false, or_true, true_or, false_or, List.getD_cons_zero, List.getD_cons_succ, List.map_append, Nat.one_ne_zero, Nat.reduceEqDiff, reduceCtorEq, eq_self,hlen, eqb_int, eqv_int, beq_self_eq_true]
  refine fn_rt (e := [some (.sh d), some (.sh d), none, none]) (seq_rt ((if_t s0).trans ((seq_nx s1).trans (ret_ok ?_))))
  unfold mAndV
  rw [bind_ok hq]
  exact ha
theorem flat_nest {n : Nat} : ∀ {k : Nat} {d : D}, Flat n d → Nest n k d
  | 0, d, h => h
  | k + 1, d, h => .inl h
theorem same_ok {n : Nat} (c : Cs) : ∀ (k : Nat) (d : D), Nest n k d → b__law_same (upN c k) [.sh d, .sh d] = .ok (.sh (.bl true)) [none, none]
  | 0, d, h => same_flat c h
  | k + 1, d, h => by
    rcases h with h | ⟨xs, hd, h⟩
    · exact same_flat _ h
    · exact same_row (upN c k) hd fun x hx => same_ok c k x (h x hx)
end L80

set_option Elab.async false
set_option linter.all false
set_option maxRecDepth 100000
set_option maxHeartbeats 4000000
namespace L80
open PySem PySem.Spec PyProof.Rows L2 Ow
/-! ### _law_spoilt -/
theorem isiNm_ok {i : Nat} {mb : M O} {o t : O} {b : Bool} {e : Sl} (h : e[i]? = some (some o)) (hm : mb e = .ok t e) (hi : isiF [o.er, t.er] = some (.sh (.bl b))) : mTru (mIsiNm i mb) e = .ok b e := by
  refine tru_ok (o := .sh (.bl b)) ?_ rfl
  unfold mIsiNm slotM
  rw [h]
  show (mb.bind fun t => slotM i fun o => ofOpt (isiF [o.er, t.er])) e = _
  rw [bind_ok hm]
  unfold slotM
  rw [h]
  show ofOpt (isiF [o.er, t.er]) e = _
  rw [hi]
  rfl
theorem fn_nx {np n : Nat} {io : List Nat} {m : M Fl} {os : List O} {e : Sl} (h : m (os.map some ++ List.replicate (n - np) none) = .ok .nx e) : bodyFn np n io m os = .ok (.sh .non) (Ow.back io np e) := by unfold bodyFn; rw [h]
theorem ltT (e : Sl) : mTup (mCons (M.ret (.sh (tyD .list))) (mCons (M.ret (.sh (tyD .tuple))) (M.ret []))) e = .ok (.tup [.sh (tyD .list), .sh (tyD .tuple)]) e :=
  tup_ok rfl (by show 2 ≤ sizeLine; decide)
theorem sp_isi {o : O} {t : Ty} (ht : o.er.ty = some t) (x1 x2 : Option O) :
    mTru (mIsiNm 0 (M.ret (.sh (tyD .dict)))) [some o, x1, x2] = .ok (t.sub .dict) [some o, x1, x2] ∧ mTru (mIsiNm 0 (mTup (mCons (M.ret (.sh (tyD .list))) (mCons (M.ret (.sh (tyD .tuple))) (M.ret []))))) [some o, x1, x2] = .ok (t.sub .list || t.sub .tuple) [some o, x1, x2] ∧ mTru (mIsiNm 0 (M.ret (.sh (tyD .list)))) [some o, x1, x2] = .ok (t.sub .list) [some o, x1, x2] := by
  refine ⟨isiNm_ok (t := .sh (tyD .dict)) rfl nil_ok ?_, isiNm_ok rfl (ltT _) ?_, isiNm_ok (t := .sh (tyD .list)) rfl nil_ok ?_⟩
  · show isiF [o.er, tyD .dict] = _
    rw [isi_dict, ht]; rfl
  · show isiF [o.er, .tup [tyD .list, tyD .tuple]] = _
    rw [isiLT, ht]; rfl
  · show isiF [o.er, tyD .list] = _
    rw [isi_list, ht]; rfl
theorem spoilt_flat (c : Cs) {n : Nat} {x : D} (h : Flat n x) : b__law_spoilt c [.sh x] = .ok (.sh .non) [some (.sh x)] := by
  obtain ⟨t, h1, h2, h3⟩ := flat_ty h
  have hl : t.sub .list = false := by cases q : t.sub .list; rfl; rw [q] at h3; cases h3
  obtain ⟨k1, k2, k3⟩ := sp_isi (o := .sh x) h1 none none
  rw [h2] at k1
  rw [h3] at k2
  rw [hl] at k3
  exact fn_nx (e := [some (.sh x), none, none]) ((seq_nx ((if_f k1).trans rfl)).trans ((seq_nx ((if_f k2).trans rfl)).trans ((if_f k3).trans rfl)))
theorem spoilt_loop (c : Cs) (x0 x1 : Option O) : ∀ (xs : List D) (x2 : Option O), (∀ x ∈ xs, c._law_spoilt [.sh x] = .ok (.sh .non) [some (.sh x)]) → ∃ y2, mFor (gSet 2 false) (mExpr (mCall (fun os => if os.length = 1 then c._law_spoilt os else .no) (slotM 2 fun _ => mConsL 2 (M.ret [])))) xs [x0, x1, x2] = .ok .nx [x0, x1, y2]
  | [], x2, _ => ⟨x2, rfl⟩
  | x :: xs, x2, h => by
    obtain ⟨y2, ih⟩ := spoilt_loop c x0 x1 xs (some (.sh x)) fun z hz => h z (List.mem_cons_of_mem _ hz)
    refine ⟨y2, ?_⟩
    rw [for_nx (e1 := [x0, x1, some (.sh x)]) (e2 := [x0, x1, some (.sh x)]) rfl (exp_ok (callL1 (ol := .sh x) rfl (h x List.mem_cons_self)))]
    exact ih
abbrev spB (c : Cs) : M Fl := mExpr (mCall (fun os => if os.length = 1 then c._law_spoilt os else .no) (slotM 2 fun _ => mConsL 2 (M.ret [])))
abbrev spF (c : Cs) : M Fl := mForO 0 2 (spB c) (M.bind (mWalk (mName 0)) fun ds => mFor (gSet 2 false) (spB c) ds)
theorem spoilt_tup (c : Cs) {n : Nat} {xs : List D} (h : ∀ x ∈ xs, Flat n x) : b__law_spoilt (csUp c) [.sh (.tup xs)] = .ok (.sh .non) [some (.sh (.tup xs))] := by
  obtain ⟨y2, hf⟩ := spoilt_loop (csUp c) (some (.sh (.tup xs))) none xs none fun x hx => spoilt_flat c (h x hx)
  obtain ⟨k1, k2, _⟩ := sp_isi (o := .sh (.tup xs)) (t := .tuple) rfl none none
  obtain ⟨_, _, k3⟩ := sp_isi (o := .sh (.tup xs)) (t := .tuple) rfl none y2
  have hf' : spF (csUp c) [some (.sh (.tup xs)), none, none] = .ok .nx [some (.sh (.tup xs)), none, y2] := hf
  exact fn_nx (e := [some (.sh (.tup xs)), none, y2]) ((seq_nx ((if_f k1).trans rfl)).trans ((seq_nx ((if_t (b := M.ret Fl.nx) k2).trans hf')).trans ((if_f k3).trans rfl)))
abbrev lateD : D := .str ("LATE" : Str)
/-- an owned list: each item spoilt, then the mark -/
theorem loopO_ok (c : Cs) (F : O → O) : ∀ (post pre : List O), (∀ o ∈ post, c._law_spoilt [o] = .ok (.sh .non) [some (F o)]) → ∀ k, k = pre.length →
    ∃ y2, loopO 0 2 (mExpr (mCall (fun os => if os.length = 1 then c._law_spoilt os else .no) (slotM 2 fun _ => mConsL 2 (M.ret [])))) post.length k (pre ++ post) [none, none, none] = .ok .nx [some (.lst (pre ++ post.map F)), none, y2]
  | [], pre, _, k, hk => ⟨none, rfl⟩
  | o :: post, pre, h, k, hk => by
    subst hk
    obtain ⟨y2, ih⟩ := loopO_ok c F post (pre ++ [F o]) (fun z hz => h z (List.mem_cons_of_mem _ hz)) _ rfl
    refine ⟨y2, ?_⟩
    rw [List.length_cons]
    conv => lhs; unfold loopO
    have e1 : (pre ++ o :: post)[pre.length]? = some o := by simp
    have e2 := exp_ok (callL1 (g := c._law_spoilt) (i := 2) (e := [none, none, some o]) (ol := o) rfl (h o List.mem_cons_self))
    simp only [e1]
    have e3 : ([none, none, none] : Sl).set 2 (some o) = [none, none, some o] := rfl
    rw [e3, e2]
    have e4 : (pre ++ o :: post).set pre.length (F o) = (pre ++ [F o]) ++ post := by simp
    show loopO 0 2 _ post.length (pre.length + 1) ((pre ++ o :: post).set pre.length (F o)) [none, none, none] = _
    rw [e4]
    have e5 : pre.length + 1 = (pre ++ [F o]).length := by simp
    rw [e5, ih]
    simp
theorem spoilt_lst (c : Cs) (F : O → O) {os : List O} (hl : os.length ≤ 1000000) (h : ∀ o ∈ os, c._law_spoilt [o] = .ok (.sh .non) [some (F o)]) : b__law_spoilt c [.lst os] = .ok (.sh .non) [some (.lst (os.map F ++ [.sh lateD]))] := by
  obtain ⟨y2, hf⟩ := loopO_ok c F os [] h 0 rfl
  obtain ⟨k1, k2, _⟩ := sp_isi (o := .lst os) (t := .list) rfl none none
  obtain ⟨_, _, k3⟩ := sp_isi (o := .lst (os.map F)) (t := .list) rfl none y2
  have hlt : (os.map F).length < sizeLine := by rw [List.length_map, sizeLine_v]; omega
  have ha : mAppend 0 (M.ret (.sh lateD)) [some (.lst (os.map F)), none, y2] = .ok (.sh .non) [some (.lst (os.map F ++ [.sh lateD])), none, y2] := by
    unfold mAppend
    simp only [bodyFn, Ow.back, mSeq, mIf, M.bind, M.ret, M.no, slotM, mName, mMove, mKid, O.kid, mBin, ofOpt, ofOptB, ofG, mAsg, gM, gSet, gPut, frz, mRet, mExpr, mTst, mTru, mNotB, mAnd, mOr, mAndV, mOrV, mNotV, mNmTru, mLenNm, mCB, c1, mCons, mUn, mLst, mTup, mPart, mSl, O.er, O.ers, O.asB, addF, addI, subI, mulF, mulI, modI, fdivI, powI, ltI, leI, gtI, geI, ii0, iiF, eqF, neF, intF_int, intF_bl, D.asI, lenF, mNeNil, O.neNil, mKidPop, O.kidPop, isNF, notNF, D.isN, mNeg, mConsV, mConsL, mConsW, mCall, mCallK, takeA, putA, mCallP, mCallPK, peekA, List.map_cons, List.map_nil, List.cons_append, List.nil_append, List.replicate, List.getElem?_cons_zero, List.getElem?_cons_succ, List.getElem?_nil, List.set_cons_zero, List.set_cons_succ, List.set_nil, List.length_cons, List.length_nil, List.length_set, Option.map_some, Option.map_none, Option.bind_some, Option.bind_none, Nat.reduceAdd, Nat.reduceSub, Nat.reduceLT, Nat.reduceLeDiff, Nat.lt_add_one, if_true, if_false, reduceIte, Bool.false_eq_true, decide_true, decide_false, Bool.and_true, Bool.true_and, Bool.and_false, Bool.false_and, Bool.not_true, Bool.not_false, List.range_succ, List.range_zero, List.mem_cons, List.not_mem_nil, or_false, or_true, true_or, false_or, List.getD_cons_zero, List.getD_cons_succ, List.map_append, Nat.one_ne_zero, Nat.reduceEqDiff, reduceCtorEq, eq_self,O.asLst, hlt]
  have hf' : spF c [some (.lst os), none, none] = .ok .nx [some (.lst (os.map F)), none, y2] := hf
  have hm : m__law_spoilt c [some (.lst os), none, none] = .ok .nx [some (.lst (os.map F ++ [.sh lateD])), none, y2] :=
    (seq_nx ((if_f (b := M.ret Fl.nx) k1).trans rfl)).trans ((seq_nx ((if_t (b := M.ret Fl.nx) k2).trans hf')).trans ((if_t (b := M.ret Fl.nx) k3).trans (exp_ok ha)))
  exact fn_nx (m := m__law_spoilt c) (os := [O.lst os]) (np := 1) (n := 3) (io := [0]) (e := [some (O.lst (os.map F ++ [O.sh lateD])), none, y2]) hm
end L80

set_option Elab.async false
set_option linter.all false
set_option maxRecDepth 100000
set_option maxHeartbeats 4000000
namespace L80
open PySem PySem.Spec PyProof.Rows L2 Ow
/-! ### _law_is_once -/
theorem flat_eq {n : Nat} {x : D} (h : Flat n x) : x.pure = true ∧ x.py.canLay0 = true ∧ x.py.depth = 0 := by
  cases x with
  | lst _ => exact h.elim
  | tup _ => exact h.elim
  | dct _ _ => exact h.elim
  | gl _ => exact h.elim
  | int i => simp [D.pure, D.py, PyData.canLay0, PyData.depth]
  | bl i => simp [D.pure, D.py, PyData.canLay0, PyData.depth]
  | non => simp [D.pure, D.py, PyData.canLay0, PyData.depth]
  | str s =>
    have h1 : PyData.strOk s = true := by
      unfold PyData.strOk
      rw [Array.all_eq_true']
      intro c hc
      have := h.2 c (by simpa [tl] using hc)
      exact decide_eq_true (by omega)
    simp [D.pure, D.py, PyData.canLay0, PyData.depth, h1]
theorem all_eq {m : Nat} : ∀ {xs : List D}, (∀ x ∈ xs, x.pure = true ∧ x.py.canLay0 = true ∧ x.py.depth ≤ m) → D.pures xs = true ∧ PyData.canLayAll0 (D.pys xs) = true ∧ PyData.depthAll (D.pys xs) ≤ m
  | [], _ => by simp [D.pures, D.pys, PyData.canLayAll0, PyData.depthAll]
  | x :: xs, h => by
    obtain ⟨a, b, d⟩ := h x List.mem_cons_self
    obtain ⟨a2, b2, d2⟩ := all_eq (xs := xs) fun y hy => h y (List.mem_cons_of_mem _ hy)
    simp [D.pures, D.pys, PyData.canLayAll0, PyData.depthAll, a, b, a2, b2]
    omega
theorem nest_eq {n : Nat} : ∀ {k : Nat} {d : D}, Nest n k d → d.pure = true ∧ d.py.canLay0 = true ∧ d.py.depth ≤ k
  | 0, d, h => ⟨(flat_eq h).1, (flat_eq h).2.1, by rw [(flat_eq h).2.2]; exact Nat.le_refl _⟩
  | k + 1, d, h => by
    rcases h with h | ⟨xs, hd, h⟩
    · exact ⟨(flat_eq h).1, (flat_eq h).2.1, by rw [(flat_eq h).2.2]; omega⟩
    · obtain ⟨a, b, e⟩ := all_eq fun x hx => nest_eq (h x hx)
      rcases hd with rfl | rfl <;> simp [D.pure, D.py, PyData.canLay0, PyData.depth, a, b] <;> omega
theorem nest_eqb {n k : Nat} {d : D} (h : Nest n k d) (hk : k ≤ 60) : d.eqb = true := by
  obtain ⟨a, b, e⟩ := nest_eq h
  unfold D.eqb SeqAt.shaped
  rw [a, b, decide_eq_true (by omega)]
  rfl
theorem late_eqb : lateD.eqb = true := (okS ("LATE" : Str) (by decide +kernel)).eqb
theorem once_flat (c : Cs) {n : Nat} {x : D} (h : Flat n x) : b__law_is_once c [.sh x] = .ok (.sh (.bl true)) [none] := by
  obtain ⟨t, h1, h2, h3⟩ := flat_ty h
  have es2 : (2 : Nat) ≤ sizeLine := by decide
  unfold b__law_is_once m__law_is_once
  simp only [bodyFn, Ow.back, mSeq, mIf, M.bind, M.ret, M.no, slotM, mName, mMove, mKid, O.kid, mBin, ofOpt, ofOptB, ofG, mAsg, gM, gSet, gPut, frz, mRet, mExpr, mTst, mTru, mNotB, mAnd, mOr, mAndV, mOrV, mNotV, mNmTru, mLenNm, mCB, c1, mCons, mUn, mLst, mTup, mPart, mSl, O.er, O.ers, O.asB, addF, addI, subI, mulF, mulI, modI, fdivI, powI, ltI, leI, gtI, geI, ii0, iiF, eqF, neF, intF_int, intF_bl, D.asI, lenF, mNeNil, O.neNil, mKidPop, O.kidPop, isNF, notNF, D.isN, mNeg, mConsV, mConsL, mConsW, mCall, mCallK, takeA, putA, mCallP, mCallPK, peekA, List.map_cons, List.map_nil, List.cons_append, List.nil_append, List.replicate, List.getElem?_cons_zero, List.getElem?_cons_succ, List.getElem?_nil, List.set_cons_zero, List.set_cons_succ, List.set_nil, List.length_cons, List.length_nil, List.length_set, Option.map_some, Option.map_none, Option.bind_some, Option.bind_none, Nat.reduceAdd, Nat.reduceSub, Nat.reduceLT, Nat.reduceLeDiff, Nat.lt_add_one, if_true, if_false, reduceIte, Bool.false_eq_true, decide_true, decide_false, Bool.and_true, Bool.true_and, Bool.and_false, Bool.false_and, Bool.not_true, Bool.not_false, List.range_succ, List.range_zero, List.mem_cons, List.not_mem_nil, or_false, or_true, true_or, false_or, List.getD_cons_zero, List.getD_cons_succ, List.map_append, Nat.one_ne_zero, Nat.reduceEqDiff, reduceCtorEq, eq_self,isi_dict, isiLT, h1, h2, h3, tru_bl, es2]
theorem once_row (c : Cs) {n k : Nat} {d : D} {xs : List D} (b : Bool) (hd : (d = .lst xs ∧ b = true) ∨ (d = .tup xs ∧ b = false)) (hn : ∀ x ∈ xs, Nest n k x) (hk : k ≤ 50) (hc : xs.countP (fun z => PyData.eqv z.py lateD.py) = if b then 1 else 0)
    (hi : ∀ x ∈ xs, b__law_is_once c [.sh x] = .ok (.sh (.bl true)) [none]) : b__law_is_once (csUp c) [.sh d] = .ok (.sh (.bl true)) [none] := by
  obtain ⟨t, h1, h2, h3, h4⟩ := row_ty (d := d) (xs := xs) (by rcases hd with ⟨h, _⟩ | ⟨h, _⟩; exact .inl h; exact .inr h)
  have hl : t.sub .list = b := by
    rcases hd with ⟨rfl, rfl⟩ | ⟨rfl, rfl⟩ <;> cases h1 <;> rfl
  have hlist : listF d = some (.lst (xs.map .sh)) := by rcases hd with ⟨rfl, _⟩ | ⟨rfl, _⟩ <;> rfl
  have es2 : (2 : Nat) ≤ sizeLine := by decide
  have hb : (D.lst xs).eqb = true := nest_eqb (n := n) (k := k + 1) (.inr ⟨xs, .inl rfl, hn⟩) (by omega)
  have hcf : countF (.lst xs) lateD = some (.sh (.int (if b then 1 else 0))) := by
    show (if (D.lst xs).eqb && lateD.eqb then some (O.sh (.int ((xs.countP fun z => PyData.eqv z.py lateD.py : Nat) : Int))) else none) = _
    rw [hb, late_eqb, hc]
    cases b <;> rfl
  have s1 : mIf (mTru (mCB isiF (mCons (mName 0) (mCons (M.ret (.sh (tyD .dict))) (M.ret []))))) (M.no : M Fl) (M.ret Fl.nx) [some (.sh d), none, none, none] = .ok Fl.nx [some (.sh d), none, none, none] := by simp only [bodyFn, Ow.back, mSeq, mIf, M.bind, M.ret, M.no, slotM, mName, mMove, mKid, O.kid, mBin, ofOpt, ofOptB, ofG, mAsg, gM, gSet, gPut, frz, mRet, mExpr, mTst, mTru, mNotB, mAnd, mOr, mAndV, mOrV, mNotV, mNmTru, mLenNm, mCB, c1, mCons, mUn, mLst, mTup, mPart, mSl, O.er, O.ers, O.asB, addF, addI, subI, mulF, mulI, modI, fdivI, powI, ltI, leI, gtI, geI, ii0, iiF, eqF, neF, intF_int, intF_bl, D.asI, lenF, mNeNil, O.neNil, mKidPop, O.kidPop, isNF, notNF, D.isN, mNeg, mConsV, mConsL, mConsW, mCall, mCallK, takeA, putA, mCallP, mCallPK, peekA, List.map_cons, List.map_nil, List.cons_append, List.nil_append, List.replicate, List.getElem?_cons_zero, List.getElem?_cons_succ, List.getElem?_nil, List.set_cons_zero, List.set_cons_succ, List.set_nil, List.length_cons, List.length_nil, List.length_set, Option.map_some, Option.map_none, Option.bind_some, Option.bind_none, Nat.reduceAdd, Nat.reduceSub, Nat.reduceLT, Nat.reduceLeDiff, Nat.lt_add_one, if_true, if_false, reduceIte, Bool.false_eq_true, decide_true, decide_false, Bool.and_true, Bool.true_and, Bool.and_false, Bool.false_and, Bool.not_true, Bool.not_false, List.range_succ, List.range_zero, List.mem_cons, List.not_mem_nil, or_false, or_true, true_or, false_or, List.getD_cons_zero, List.getD_cons_succ, List.map_append, Nat.one_ne_zero, Nat.reduceEqDiff, reduceCtorEq, eq_self,isi_dict, h1, h2, tru_bl]
  have s0 : mTru (mCB isiF (mCons (mName 0) (mCons (mTup (mCons (M.ret (.sh (tyD .list))) (mCons (M.ret (.sh (tyD .tuple))) (M.ret [])))) (M.ret [])))) [some (.sh d), none, none, none] = .ok true [some (.sh d), none, none, none] := by
    simp only [bodyFn, Ow.back, mSeq, mIf, M.bind, M.ret, M.no, slotM, mName, mMove, mKid, O.kid, mBin, ofOpt, ofOptB, ofG, mAsg, gM, gSet, gPut, frz, mRet, mExpr, mTst, mTru, mNotB, mAnd, mOr, mAndV, mOrV, mNotV, mNmTru, mLenNm, mCB, c1, mCons, mUn, mLst, mTup, mPart, mSl, O.er, O.ers, O.asB, addF, addI, subI, mulF, mulI, modI, fdivI, powI, ltI, leI, gtI, geI, ii0, iiF, eqF, neF, intF_int, intF_bl, D.asI, lenF, mNeNil, O.neNil, mKidPop, O.kidPop, isNF, notNF, D.isN, mNeg, mConsV, mConsL, mConsW, mCall, mCallK, takeA, putA, mCallP, mCallPK, peekA, List.map_cons, List.map_nil, List.cons_append, List.nil_append, List.replicate, List.getElem?_cons_zero, List.getElem?_cons_succ, List.getElem?_nil, List.set_cons_zero, List.set_cons_succ, List.set_nil, List.length_cons, List.length_nil, List.length_set, Option.map_some, Option.map_none, Option.bind_some, Option.bind_none, Nat.reduceAdd, Nat.reduceSub, Nat.reduceLT, Nat.reduceLeDiff, Nat.lt_add_one, if_true, if_false, reduceIte, Bool.false_eq_true, decide_true, decide_false, Bool.and_true, Bool.true_and, Bool.and_false, Bool.false_and, Bool.not_true, Bool.not_false, List.range_succ, List.range_zero, List.mem_cons, List.not_mem_nil, or_false, or_true, true_or, false_or, List.getD_cons_zero, List.getD_cons_succ, List.map_append, Nat.one_ne_zero, Nat.reduceEqDiff, reduceCtorEq, eq_self,isiLT, h1, h3, tru_bl, es2]
  have s2 : mAsg (mCB (c1 intF) (mCons (mCB isiF (mCons (mName 0) (mCons (M.ret (.sh (tyD .list))) (M.ret [])))) (M.ret []))) (gSet 2 true) [some (.sh d), none, none, none] = .ok Fl.nx [some (.sh d), none, some (.sh (.int (if b then 1 else 0))), none] := by
    simp only [bodyFn, Ow.back, mSeq, mIf, M.bind, M.ret, M.no, slotM, mName, mMove, mKid, O.kid, mBin, ofOpt, ofOptB, ofG, mAsg, gM, gSet, gPut, frz, mRet, mExpr, mTst, mTru, mNotB, mAnd, mOr, mAndV, mOrV, mNotV, mNmTru, mLenNm, mCB, c1, mCons, mUn, mLst, mTup, mPart, mSl, O.er, O.ers, O.asB, addF, addI, subI, mulF, mulI, modI, fdivI, powI, ltI, leI, gtI, geI, ii0, iiF, eqF, neF, intF_int, intF_bl, D.asI, lenF, mNeNil, O.neNil, mKidPop, O.kidPop, isNF, notNF, D.isN, mNeg, mConsV, mConsL, mConsW, mCall, mCallK, takeA, putA, mCallP, mCallPK, peekA, List.map_cons, List.map_nil, List.cons_append, List.nil_append, List.replicate, List.getElem?_cons_zero, List.getElem?_cons_succ, List.getElem?_nil, List.set_cons_zero, List.set_cons_succ, List.set_nil, List.length_cons, List.length_nil, List.length_set, Option.map_some, Option.map_none, Option.bind_some, Option.bind_none, Nat.reduceAdd, Nat.reduceSub, Nat.reduceLT, Nat.reduceLeDiff, Nat.lt_add_one, if_true, if_false, reduceIte, Bool.false_eq_true, decide_true, decide_false, Bool.and_true, Bool.true_and, Bool.and_false, Bool.false_and, Bool.not_true, Bool.not_false, List.range_succ, List.range_zero, List.mem_cons, List.not_mem_nil, or_false, or_true, true_or, false_or, List.getD_cons_zero, List.getD_cons_succ, List.map_append, Nat.one_ne_zero, Nat.reduceEqDiff, reduceCtorEq, eq_self,isi_list, h1, hl]
  have hcount : mCount (mCB (c1 listF) (mCons (mName 0) (M.ret []))) (M.ret (.sh lateD)) [some (.sh d), none, some (.sh (.int (if b then 1 else 0))), none] = .ok (.sh (.int (if b then 1 else 0))) [some (.sh d), none, some (.sh (.int (if b then 1 else 0))), none] := by
    unfold mCount
    have hz : (O.lst (xs.map O.sh)).er = .lst xs := by
      show D.lst (O.ers _) = _
      rw [O.ers_sh]
    have hc1 : mCB (c1 listF) (mCons (mName 0) (M.ret [])) [some (.sh d), none, some (.sh (.int (if b then 1 else 0))), none] = .ok (.lst (xs.map O.sh)) [some (.sh d), none, some (.sh (.int (if b then 1 else 0))), none] := cb_ok (os := [.sh d]) rfl (show c1 listF [d] = _ from hlist)
    rw [bind_ok hc1, hz]
    show ofOpt (countF (.lst xs) lateD) _ = _
    rw [hcf]
    rfl
  have hq : mBin eqF (mCount (mCB (c1 listF) (mCons (mName 0) (M.ret []))) (M.ret (.sh lateD))) (mName 2) [some (.sh d), none, some (.sh (.int (if b then 1 else 0))), none] = .ok (.sh (.bl true)) [some (.sh d), none, some (.sh (.int (if b then 1 else 0))), none] :=
    bin_ok hcount (y := .sh (.int (if b then 1 else 0))) (e2 := [some (.sh d), none, some (.sh (.int (if b then 1 else 0))), none]) rfl (by simp only [bodyFn, Ow.back, mSeq, mIf, M.bind, M.ret, M.no, slotM, mName, mMove, mKid, O.kid, mBin, ofOpt, ofOptB, ofG, mAsg, gM, gSet, gPut, frz, mRet, mExpr, mTst, mTru, mNotB, mAnd, mOr, mAndV, mOrV, mNotV, mNmTru, mLenNm, mCB, c1, mCons, mUn, mLst, mTup, mPart, mSl, O.er, O.ers, O.asB, addF, addI, subI, mulF, mulI, modI, fdivI, powI, ltI, leI, gtI, geI, ii0, iiF, eqF, neF, intF_int, intF_bl, D.asI, lenF, mNeNil, O.neNil, mKidPop, O.kidPop, isNF, notNF, D.isN, mNeg, mConsV, mConsL, mConsW, mCall, mCallK, takeA, putA, mCallP, mCallPK, peekA, List.map_cons, List.map_nil, List.cons_append, List.nil_append, List.replicate, List.getElem?_cons_zero, List.getElem?_cons_succ, List.getElem?_nil, List.set_cons_zero, List.set_cons_succ, List.set_nil, List.length_cons, List.length_nil, List.length_set, Option.map_some, Option.map_none, Option.bind_some, Option.bind_none, Nat.reduceAdd, Nat.reduceSub, Nat.reduceLT, Nat.reduceLeDiff, Nat.lt_add_one, if_true, if_false, reduceIte, Bool.false_eq_true, decide_true, decide_false, Bool.and_true, Bool.true_and, Bool.and_false, Bool.false_and, Bool.not_true, Bool.not_false, List.range_succ, List.range_zero, List.mem_cons, List.not_mem_nil, or_false, or_true, true_or, false_or, List.getD_cons_zero, List.getD_cons_succ, List.map_append, Nat.one_ne_zero, Nat.reduceEqDiff, reduceCtorEq, eq_self,eqb_int, eqv_int, beq_self_eq_true])
  have hkk : mCompK [3] true (gSet 3 true) (M.ret true) (mCall (fun os => if os.length = 1 then (csUp c)._law_is_once os else .no) (mConsV (mName 3) (M.ret []))) xs [some (.sh d), none, some (.sh (.int (if b then 1 else 0))), none] = .ok (.lst (xs.map fun z => .sh ((fun _ => D.bl true) z))) [some (.sh d), none, some (.sh (.int (if b then 1 else 0))), none] := by
    refine compK1 (e0 := [some (.sh d), none, some (.sh (.int (if b then 1 else 0))), none]) (fun _ => D.bl true) rfl rfl rfl fun x hx => ?_
    have hs : (csUp c)._law_is_once [.sh x] = _ := hi x hx
    exact ⟨[some (.sh d), none, some (.sh (.int (if b then 1 else 0))), some (.sh x)], .sh (.bl true), [some (.sh d), none, some (.sh (.int (if b then 1 else 0))), some (.sh x)], rfl, call1 (o := .sh x) rfl hs, rfl, rfl⟩
  have ha : mCB (c1 allF) (mCons (mComp [3] true (mWalk (mName 0)) (gSet 3 true) (M.ret true) (mCall (fun os => if os.length = 1 then (csUp c)._law_is_once os else .no) (mConsV (mName 3) (M.ret [])))) (M.ret [])) [some (.sh d), none, some (.sh (.int (if b then 1 else 0))), none] = .ok (.sh (.bl true)) [some (.sh d), none, some (.sh (.int (if b then 1 else 0))), none] := by
    refine cb_ok (os := [_]) (cons_ok (comp_ok (walk_ok (x := .sh d) (e1 := [some (.sh d), none, some (.sh (.int (if b then 1 else 0))), none]) rfl h4) hkk) nil_ok) ?_
    have e1 : (O.lst (xs.map fun z => O.sh ((fun _ => D.bl true) z))).er = .lst (xs.map fun _ => D.bl true) := by
      show D.lst (O.ers _) = _
      rw [O.ers_map, List.map_map]; rfl
    show allF ((O.lst (xs.map fun z => O.sh ((fun _ => D.bl true) z))).er) = _
    rw [e1]
    show ((xs.map fun _ => D.bl true).mapM D.asBl).map (fun bs => O.sh (.bl (bs.all id))) = _
    rw [bls_all]
    simp
  unfold b__law_is_once m__law_is_once
  refine fn_rt (e := [some (.sh d), none, some (.sh (.int (if b then 1 else 0))), none]) ((seq_nx s1).trans (seq_rt ((if_t (b := M.ret Fl.nx) s0).trans ((seq_nx s2).trans (ret_ok ?_)))))
  unfold mAndV
  rw [bind_ok hq]
  exact ha
/-! ### _law_apart -/
theorem nl_list (xs : List D) : PyData.eqv (D.lst xs).py lateD.py = false := by simp [D.py, PyData.eqv]
theorem nl_tup (xs : List D) : PyData.eqv (D.tup xs).py lateD.py = false := by simp [D.py, PyData.eqv]
theorem nl_int (i : Int) : PyData.eqv (D.int i).py lateD.py = false := by simp [D.py, PyData.eqv]
theorem late_len : ("LATE" : Str).length = 4 := by decide +kernel
theorem nl_good {xs : List D} (h : pdB xs = true) : xs.countP (fun z => PyData.eqv z.py lateD.py) = 0 := by
  have q1 : (hearS == ("LATE" : Str)) = false := by decide +kernel
  have q2 : (tellS == ("LATE" : Str)) = false := by decide +kernel
  have q3 : (freshS == ("LATE" : Str)) = false := by decide +kernel
  rw [List.countP_eq_zero]
  intro x hx
  rcases pd_items h with ⟨ch, k, rfl, hc, k1, k2⟩ | ⟨k, rfl, k1, k2⟩ | rfl
  · simp only [List.mem_cons, List.not_mem_nil, or_false] at hx
    rcases hx with rfl | rfl | rfl
    · rw [eqv_str, q1]; simp
    · have : (ch == ("LATE" : Str)) = false := by
        rw [beq_eq_false_iff_ne]
        rintro rfl
        have := letS_len hc
        rw [late_len] at this
        omega
      rw [eqv_str, this]; simp
    · rw [nl_int]; simp
  · simp only [List.mem_cons, List.not_mem_nil, or_false] at hx
    rcases hx with rfl | rfl
    · rw [eqv_str, q2]; simp
    · rw [nl_int]; simp
  · simp only [List.mem_cons, List.not_mem_nil, or_false] at hx
    subst hx
    rw [eqv_str, q3]; simp
theorem late_flat : Flat 5 lateD := (okS ("LATE" : Str) (by decide +kernel)).mono (by rw [late_len]; omega)
theorem late_self : PyData.eqv lateD.py lateD.py = true := by rw [eqv_str]; simp
theorem good_nest {d : D} (h : Good d) : Nest 5 1 d := by
  obtain ⟨xs, rfl, hp⟩ := h
  exact .inr ⟨xs, .inr rfl, fun x hx => pd_flat hp x hx⟩
theorem apart_ok (c : Cs) {ds : List D} (hg : ∀ d ∈ ds, Good d) (hl : ds.length ≤ 1000) : b__law_apart (csUp (csUp (csUp (csUp c)))) [.lst [.lst (ds.map O.sh)]] = .ok (.sh (.bl true)) [none] := by
  have p1 : ∀ o ∈ ds.map O.sh, (csUp (csUp c))._law_spoilt [o] = .ok (.sh .non) [some (id o)] := fun o ho => by
    obtain ⟨d, hd, rfl⟩ := List.mem_map.mp ho
    obtain ⟨xs, rfl, hp⟩ := hg d hd
    exact spoilt_tup c (pd_flat hp)
  have p2 := spoilt_lst (csUp (csUp c)) id (os := ds.map O.sh) (by rw [List.length_map]; omega) p1
  have p3 := spoilt_lst (csUp (csUp (csUp c))) (fun _ => .lst ((ds.map O.sh).map id ++ [.sh lateD])) (os := [.lst (ds.map O.sh)]) (by simp) fun o ho => by
    rw [List.mem_singleton.mp ho]
    exact p2
  have p4 : (csUp (csUp (csUp (csUp c))))._law_spoilt [.lst [.lst (ds.map O.sh)]] = _ := p3
  have he : (O.lst ([O.lst (ds.map O.sh)].map (fun _ => O.lst ((ds.map O.sh).map id ++ [.sh lateD])) ++ [.sh lateD])).er = .lst [.lst (ds ++ [lateD]), lateD] := by
    have e2 : (ds.map O.sh).map id ++ [O.sh lateD] = (ds ++ [lateD]).map O.sh := by simp
    show D.lst [D.lst (O.ers ((ds.map O.sh).map id ++ [O.sh lateD])), lateD] = _
    rw [e2, O.ers_sh]
  have n1 : ∀ x ∈ ds ++ [lateD], Nest 5 1 x := fun x hx => by
    rcases List.mem_append.mp hx with z | z
    · exact good_nest (hg x z)
    · rw [List.mem_singleton.mp z]; exact .inl late_flat
  have q1 : ∀ x ∈ ds ++ [lateD], b__law_is_once (csUp c) [.sh x] = .ok (.sh (.bl true)) [none] := fun x hx => by
    rcases List.mem_append.mp hx with z | z
    · obtain ⟨xs, rfl, hp⟩ := hg x z
      exact once_row c (n := 5) (k := 0) (xs := xs) false (.inr ⟨rfl, rfl⟩) (fun y hy => pd_flat hp y hy) (by omega) (nl_good hp) fun y hy => once_flat c (pd_flat hp y hy)
    · rw [List.mem_singleton.mp z]; exact once_flat _ late_flat
  have c1 : (ds ++ [lateD]).countP (fun z => PyData.eqv z.py lateD.py) = 1 := by
    rw [List.countP_append]
    have : ds.countP (fun z => PyData.eqv z.py lateD.py) = 0 := by
      rw [List.countP_eq_zero]
      intro x hx
      obtain ⟨xs, rfl, _⟩ := hg x hx
      rw [nl_tup]; simp
    rw [this, List.countP_singleton, late_self]
    rfl
  have q2 : b__law_is_once (csUp (csUp c)) [.sh (.lst (ds ++ [lateD]))] = _ := once_row (csUp c) (n := 5) (k := 1) true (.inl ⟨rfl, rfl⟩) n1 (by omega) c1 q1
  have q3 : b__law_is_once (csUp (csUp (csUp c))) [.sh (.lst [.lst (ds ++ [lateD]), lateD])] = .ok (.sh (.bl true)) [none] := by
    refine once_row (csUp (csUp c)) (n := 5) (k := 2) true (.inl ⟨rfl, rfl⟩) (fun x hx => ?_) (by omega) ?_ fun x hx => ?_
    · simp only [List.mem_cons, List.not_mem_nil, or_false] at hx
      rcases hx with rfl | rfl
      · exact .inr ⟨_, .inl rfl, n1⟩
      · exact .inl late_flat
    · rw [List.countP_cons, List.countP_singleton, late_self, nl_list]
      rfl
    · simp only [List.mem_cons, List.not_mem_nil, or_false] at hx
      rcases hx with rfl | rfl
      · exact q2
      · exact once_flat _ late_flat
  have q4 : (csUp (csUp (csUp (csUp c))))._law_is_once [.sh (.lst [.lst (ds ++ [lateD]), lateD])] = _ := q3
  have a1 := callL1 (g := (csUp (csUp (csUp (csUp c))))._law_spoilt) (i := 0) (e := [some (.lst [.lst (ds.map O.sh)])]) (ol := .lst [.lst (ds.map O.sh)]) rfl p4
  have a2 := call1 (g := (csUp (csUp (csUp (csUp c))))._law_is_once) (m := mName 0) (e := [some (O.lst ([O.lst (ds.map O.sh)].map (fun _ => O.lst ((ds.map O.sh).map id ++ [.sh lateD])) ++ [.sh lateD]))]) (o := .sh (.lst [.lst (ds ++ [lateD]), lateD])) (e1 := [some (.sh (.lst [.lst (ds ++ [lateD]), lateD]))]) (by
    show R.ok (O.sh (O.lst _).er) [some (O.sh (O.lst _).er)] = _
    rw [he]) q4
  have hm : m__law_apart (csUp (csUp (csUp (csUp c)))) [some (.lst [.lst (ds.map O.sh)])] = .ok (.rt (.sh (.bl true))) [some (.sh (.lst [.lst (ds ++ [lateD]), lateD]))] := (seq_nx (exp_ok a1)).trans (ret_ok a2)
  exact fn_rt (m := m__law_apart (csUp (csUp (csUp (csUp c))))) (os := [O.lst [O.lst (ds.map O.sh)]]) (np := 1) (n := 1) (io := []) hm
end L80

set_option Elab.async false
set_option linter.all false
set_option maxRecDepth 100000
set_option maxHeartbeats 4000000
namespace L80
open PySem PySem.Spec PyProof.Rows L2 Ow
/-! ### _law_mbent -/
/-- short lists of short texts -/
structure LS (m n : Nat) (xs : List D) : Prop where
  lenS : xs.length ≤ m
  allS : ∀ x ∈ xs, ∃ z, x = .str z ∧ Ok n z
theorem LS.mono {m n m' n' : Nat} {xs : List D} (h : LS m n xs) (a : m ≤ m') (b : n ≤ n') : LS m' n' xs := ⟨Nat.le_trans h.lenS a, fun x hx => by
  obtain ⟨z, e, o⟩ := h.allS x hx
  exact ⟨z, e, o.mono b⟩⟩
theorem LS.cut {m n : Nat} {xs : List D} (h : LS m n xs) (lo hi : Option Int) : LS m n (Ow.cutD xs lo hi) := by
  unfold Ow.cutD
  refine ⟨?_, fun x hx => h.allS x (List.mem_of_mem_drop (List.mem_of_mem_take hx))⟩
  have := h.lenS
  simp only [List.length_take, List.length_drop]
  omega
theorem LS.app {m m' n : Nat} {xs ys : List D} (h : LS m n xs) (h2 : LS m' n ys) : LS (m + m') n (xs ++ ys) := by
  refine ⟨by rw [List.length_append]; have := h.lenS; have := h2.lenS; omega, fun x hx => ?_⟩
  rcases List.mem_append.mp hx with z | z
  · exact h.allS x z
  · exact h2.allS x z
theorem LS.one {n : Nat} {z : Str} (h : Ok n z) : LS 1 n [.str z] := ⟨by simp, fun x hx => ⟨z, List.mem_singleton.mp hx, h⟩⟩
theorem LS.map {n : Nat} {zs : List Str} (h : ∀ z ∈ zs, Ok n z) : LS zs.length n (zs.map D.str) := ⟨by simp, fun x hx => by
  obtain ⟨z, hz, rfl⟩ := List.mem_map.mp hx
  exact ⟨z, rfl, h z hz⟩⟩
theorem LS.back {m n : Nat} {xs : List D} (h : LS m n xs) : ∃ zs : List Str, xs = zs.map D.str ∧ (∀ z ∈ zs, Ok n z) ∧ zs.length ≤ m := by
  obtain ⟨hl, hs⟩ := h
  induction xs generalizing m with
  | nil => exact ⟨[], rfl, ⟨(fun z hz => absurd hz List.not_mem_nil), Nat.zero_le _⟩⟩
  | cons x xs ih =>
    obtain ⟨z, rfl, hz⟩ := hs x List.mem_cons_self
    obtain ⟨zs, rfl, h1, h2⟩ := ih (Nat.le_refl _) fun y hy => hs y (List.mem_cons_of_mem _ hy)
    refine ⟨z :: zs, rfl, fun y hy => ?_, by simpa using hl⟩
    rcases List.mem_cons.mp hy with rfl | q
    · exact hz
    · exact h1 y q
theorem lstSh_er (xs : List D) : (O.lst (xs.map O.sh)).er = .lst xs := by
  show D.lst (O.ers _) = _
  rw [O.ers_sh]
theorem addL {xs ys : List D} (h : xs.length + ys.length ≤ 1000000) : addF (.lst xs) (.lst ys) = some (.lst ((xs ++ ys).map .sh)) := by
  show (if xs.length + ys.length ≤ sizeLine then some (O.lst ((xs ++ ys).map .sh)) else none) = _
  rw [if_pos (by rw [sizeLine_v]; omega)]
theorem part_ok {m : M O} {e e1 : Sl} {o : O} {i : Int} (h : m e = .ok o e1) (hi : o.er = .int i) : mPart m e = .ok (some i) e1 := by
  unfold mPart
  rw [bind_ok h, hi]
  rfl
theorem sl_ok {ma : M O} {ml mh : M (Option Int)} {e e1 e2 e3 : Sl} {x : O} {xs : List D} {lo hi : Option Int} (h : ma e = .ok x e1) (hx : x.er = .lst xs) (hl : ml e1 = .ok lo e2) (hh : mh e2 = .ok hi e3) : mSl ma ml mh e = .ok (.lst ((Ow.cutD xs lo hi).map .sh)) e3 := by
  unfold mSl
  rw [bind_ok h, bind_ok hl, bind_ok hh, hx]
  rfl
theorem slS_ok {ma : M O} {ml mh : M (Option Int)} {e e1 e2 e3 : Sl} {x : O} {s : Str} {lo hi : Option Int} (h : ma e = .ok x e1) (hx : x.er = .str s) (hl : ml e1 = .ok lo e2) (hh : mh e2 = .ok hi e3) (hs : s.length ≤ 1000000) : mSl ma ml mh e = .ok (.sh (.str (cutS s lo hi))) e3 := by
  unfold mSl
  rw [bind_ok h, bind_ok hl, bind_ok hh, hx]
  show ofOpt (if s.length ≤ sizeLine then some (O.sh (.str (cutS s lo hi))) else none) _ = _
  rw [if_pos (by rw [sizeLine_v]; omega)]
  rfl
theorem cutS_ok {n : Nat} {s : Str} (h : Ok n s) (lo hi : Option Int) : Ok n (cutS s lo hi) := by
  have e : tl (cutS s lo hi) = (s.cps.toList.drop (HT.sIx s.length 0 lo)).take (HT.sIx s.length s.length hi - HT.sIx s.length 0 lo) := by
    unfold cutS
    simp [tl]
  refine ⟨?_, fun c hc => h.2 c ?_⟩
  · rw [len_tl, e]
    have := h.1
    rw [len_tl] at this
    simp only [List.length_take, List.length_drop]
    have : s.cps.toList.length ≤ n := this
    omega
  · rw [e] at hc
    exact List.mem_of_mem_drop (List.mem_of_mem_take hc)
theorem addLs {a b : M O} {e e1 e2 : Sl} {xs ys : List D} (ha : a e = .ok (.lst (xs.map O.sh)) e1) (hb : b e1 = .ok (.lst (ys.map O.sh)) e2) (h : xs.length + ys.length ≤ 1000000) : mBin addF a b e = .ok (.lst ((xs ++ ys).map O.sh)) e2 :=
  bin_ok ha hb (by rw [lstSh_er, lstSh_er]; exact addL h)
theorem asgL {m : M O} {e e1 : Sl} {xs : List D} {i : Nat} (h : m e = .ok (.lst (xs.map O.sh)) e1) (hi : i < e1.length) : mAsg m (gSet i true) e = .ok .nx (e1.set i (some (.sh (.lst xs)))) := by
  refine asg_ok h ?_
  unfold gSet
  rw [if_pos hi]
  show some (e1.set i (some (O.sh (O.lst (xs.map O.sh)).er))) = _
  rw [lstSh_er]
end L80

set_option Elab.async false
set_option linter.all false
set_option maxRecDepth 100000
set_option maxHeartbeats 4000000
namespace L80
open PySem PySem.Spec PyProof.Rows L2 Ow
abbrev E9 (o : O) (L mo : List D) (at' k : Int) (ws : List D) (pl : Int) (x7 x8 : Option O) : Sl := [some o, some (.sh (.lst L)), some (.sh (.lst mo)), some (.sh (.int at')), some (.sh (.int k)), some (.sh (.lst ws)), some (.sh (.int pl)), x7, x8]
theorem addII (a b : Int) : addF (.int a) (.int b) = some (.sh (.int (a + b))) := rfl
theorem subII (a b : Int) : subI (.int a) (.int b) = some (.sh (.int (a - b))) := rfl
theorem kindE (i : Nat) {e : Sl} {k j : Int} (h : mName i e = .ok (.sh (.int k)) e) : mTst (mBin eqF (mName i) (M.ret (.sh (.int j)))) e = .ok (k == j) e :=
  tst_ok (bin_ok h nil_ok (o := .sh (.bl (k == j))) (by simp only [bodyFn, Ow.back, mSeq, mIf, M.bind, M.ret, M.no, slotM, mName, mMove, mKid, O.kid, mBin, ofOpt, ofOptB, ofG, mAsg, gM, gSet, gPut, frz, mRet, mExpr, mTst, mTru, mNotB, mAnd, mOr, mAndV, mOrV, mNotV, mNmTru, mLenNm, mCB, c1, mCons, mUn, mLst, mTup, mPart, mSl, O.er, O.ers, O.asB, addF, addI, subI, mulF, mulI, modI, fdivI, powI, ltI, leI, gtI, geI, ii0, iiF, eqF, neF, intF_int, intF_bl, D.asI, lenF, mNeNil, O.neNil, mKidPop, O.kidPop, isNF, notNF, D.isN, mNeg, mConsV, mConsL, mConsW, mCall, mCallK, takeA, putA, mCallP, mCallPK, peekA, List.map_cons, List.map_nil, List.cons_append, List.nil_append, List.replicate, List.getElem?_cons_zero, List.getElem?_cons_succ, List.getElem?_nil, List.set_cons_zero, List.set_cons_succ, List.set_nil, List.length_cons, List.length_nil, List.length_set, Option.map_some, Option.map_none, Option.bind_some, Option.bind_none, Nat.reduceAdd, Nat.reduceSub, Nat.reduceLT, Nat.reduceLeDiff, Nat.lt_add_one, if_true, if_false, reduceIte, Bool.false_eq_true, decide_true, decide_false, Bool.and_true, Bool.true_and, Bool.and_false, Bool.false_and, Bool.not_true, Bool.not_false, List.range_succ, List.range_zero, List.mem_cons, List.not_mem_nil, or_false, or_true, true_or, false_or, List.getD_cons_zero, List.getD_cons_succ, List.map_append, Nat.one_ne_zero, Nat.reduceEqDiff, reduceCtorEq, eq_self,eqb_int, eqv_int])) rfl
theorem beq_t {k j : Int} (h : k = j) : (k == j) = true := by subst h; simp
theorem beq_f {k j : Int} (h : k ≠ j) : (k == j) = false := by simp [h]
theorem plus1 {i : Nat} {e : Sl} {p : Int} (h : mName i e = .ok (.sh (.int p)) e) : mPart (mBin addF (mName i) (M.ret (.sh (.int 1)))) e = .ok (some (p + 1)) e :=
  part_ok (bin_ok h nil_ok (addII p 1)) rfl
theorem plain0 {i : Nat} {e : Sl} {p : Int} (h : mName i e = .ok (.sh (.int p)) e) : mPart (mName i) e = .ok (some p) e := part_ok h rfl
theorem slN {i : Nat} {e e2 e3 : Sl} {xs : List D} {ml mh : M (Option Int)} {lo hi : Option Int} (h : mName i e = .ok (.sh (.lst xs)) e) (hl : ml e = .ok lo e2) (hh : mh e2 = .ok hi e3) : mSl (mName i) ml mh e = .ok (.lst ((Ow.cutD xs lo hi).map .sh)) e3 := sl_ok h rfl hl hh
theorem noneP (e : Sl) : (M.ret none : M (Option Int)) e = .ok none e := rfl
/-- kind 0 -/
theorem be_w0 {o : O} {L mo ws : List D} {a k pl : Int} {m n : Nat} (h : LS m n ws) (hm : m ≤ 1000) :
    ∃ ws', mIf (mTst (mBin eqF (mName 4) (M.ret (.sh (.int 0))))) (mAsg (mBin addF (mSl (mName 5) (M.ret none) (mPart (mName 6))) (mSl (mName 5) (mPart (mBin addF (mName 6) (M.ret (.sh (.int 1))))) (M.ret none))) (gSet 5 true)) (M.ret Fl.nx) (E9 o L mo a k ws pl none none) = .ok Fl.nx (E9 o L mo a k ws' pl none none) ∧ LS (m + m) n ws' ∧ (k ≠ 0 → ws' = ws) := by
  have hk := kindE 4 (e := E9 o L mo a k ws pl none none) (k := k) (j := 0) rfl
  by_cases q : k = 0
  · rw [beq_t q] at hk
    have l1 := (h.cut none (some pl)).lenS
    have l2 := (h.cut (some (pl + 1)) none).lenS
    have h5 : mName 5 (E9 o L mo a k ws pl none none) = .ok (.sh (.lst ws)) (E9 o L mo a k ws pl none none) := rfl
    have h6 : mName 6 (E9 o L mo a k ws pl none none) = .ok (.sh (.int pl)) (E9 o L mo a k ws pl none none) := rfl
    have s1 := slN h5 (noneP _) (plain0 h6)
    have s2 := slN h5 (plus1 h6) (noneP _)
    exact ⟨_, (if_t hk).trans (asgL (i := 5) (addLs s1 s2 (by omega)) (by show 5 < 9; omega)), (h.cut none (some pl)).app (h.cut (some (pl + 1)) none), fun z => absurd q z⟩
  · rw [beq_f q] at hk
    exact ⟨ws, (if_f hk).trans rfl, h.mono (by omega) (Nat.le_refl _), fun _ => rfl⟩
theorem in18 (k : Int) : inF false (.int k) (.tup [.int 1, .int 8]) = some (.sh (.bl ((1 : Int) == k || (8 : Int) == k))) := by
  have e : inF false (.int k) (.tup [.int 1, .int 8]) = some (.sh (.bl ([D.int 1, D.int 8].any fun z => PyData.eqv z.py (D.int k).py))) := rfl
  rw [e]
  simp only [List.any_cons, List.any_nil, eqv_int, Bool.or_false]
/-- kinds 1 and 8 -/
theorem be_w1 (c : Cs) {N : Int} {o : O} (hs : Stm N o) (hN : N + 1 ≤ 1000000) {L mo ws : List D} {a k pl : Int} {m n : Nat} (h : LS m n ws) (hm : m ≤ 1000) (hmo : LS 20 n mo) (hne : mo ≠ []) :
    ∃ ws' o', mIf (mTst (mBin (inF false) (mName 4) (mTup (mCons (M.ret (.sh (.int 1))) (mCons (M.ret (.sh (.int 8))) (M.ret [])))))) (mAsg (mBin addF (mBin addF (mSl (mName 5) (M.ret none) (mPart (mName 6))) (mLst (mCons (mCall (fun os => if os.length = 2 then (csUp (csUp c))._law_pick os else .no) (slotM 0 fun _ => mConsL 0 (mConsV (mBin addF (mName 2) (mName 5)) (M.ret [])))) (M.ret [])))) (mSl (mName 5) (mPart (mBin addF (mName 6) (mCB (c1 intF) (mCons (mBin eqF (mName 4) (M.ret (.sh (.int 8)))) (M.ret []))))) (M.ret none))) (gSet 5 true)) (M.ret Fl.nx) (E9 o L mo a k ws pl none none) = .ok Fl.nx (E9 o' L mo a k ws' pl none none) ∧ LS (m + 1 + m) n ws' ∧ Stm (N + 1) o' ∧ (k ≠ 1 → k ≠ 8 → ws' = ws) := by
  have hk : mTst (mBin (inF false) (mName 4) (mTup (mCons (M.ret (.sh (.int 1))) (mCons (M.ret (.sh (.int 8))) (M.ret []))))) (E9 o L mo a k ws pl none none) = .ok ((1 : Int) == k || (8 : Int) == k) (E9 o L mo a k ws pl none none) :=
    tst_ok (bin_ok (x := .sh (.int k)) (e1 := E9 o L mo a k ws pl none none) rfl (tup_ok (os := [.sh (.int 1), .sh (.int 8)]) rfl (by show 2 ≤ sizeLine; decide)) (in18 k)) rfl
  by_cases q : k = 1 ∨ k = 8
  · have hb : ((1 : Int) == k || (8 : Int) == k) = true := by rcases q with rfl | rfl <;> rfl
    rw [hb] at hk
    obtain ⟨x, o', p1, p2, p3⟩ := pick_ok c hs (by omega) (xs := mo ++ ws) (by simp [hne]) (by have := h.lenS; have := hmo.lenS; rw [List.length_append]; omega)
    have p4 : (csUp (csUp c))._law_pick [o, .sh (.lst (mo ++ ws))] = _ := p1
    have hx : ∃ z, x = .str z ∧ Ok n z := (hmo.app h).allS x p2
    obtain ⟨z, rfl, hz⟩ := hx
    have l1 := (h.cut none (some pl)).lenS
    have h5 : mName 5 (E9 o L mo a k ws pl none none) = .ok (.sh (.lst ws)) (E9 o L mo a k ws pl none none) := rfl
    have h6 : mName 6 (E9 o L mo a k ws pl none none) = .ok (.sh (.int pl)) (E9 o L mo a k ws pl none none) := rfl
    have h5' : mName 5 (E9 o' L mo a k ws pl none none) = .ok (.sh (.lst ws)) (E9 o' L mo a k ws pl none none) := rfl
    have h6' : mName 6 (E9 o' L mo a k ws pl none none) = .ok (.sh (.int pl)) (E9 o' L mo a k ws pl none none) := rfl
    have s1 := slN h5 (noneP _) (plain0 h6)
    have ha : mBin addF (mName 2) (mName 5) (E9 o L mo a k ws pl none none) = .ok (.lst ((mo ++ ws).map O.sh)) (E9 o L mo a k ws pl none none) :=
      bin_ok (x := .sh (.lst mo)) (e1 := E9 o L mo a k ws pl none none) rfl h5 (addL (by have := h.lenS; have := hmo.lenS; omega))
    have s2 : mLst (mCons (mCall (fun os => if os.length = 2 then (csUp (csUp c))._law_pick os else .no) (slotM 0 fun _ => mConsL 0 (mConsV (mBin addF (mName 2) (mName 5)) (M.ret [])))) (M.ret [])) (E9 o L mo a k ws pl none none) = .ok (.lst ([D.str z].map O.sh)) (E9 o' L mo a k ws pl none none) :=
      lst_ok (os := [.sh (.str z)]) (cons_ok (callL rfl ha (ol := o) rfl (by rw [lstSh_er]; exact p4)) nil_ok) (by show 1 ≤ sizeLine; decide)
    have s3 := addLs s1 s2 (by simp; omega)
    have hi : mCB (c1 intF) (mCons (mBin eqF (mName 4) (M.ret (.sh (.int 8)))) (M.ret [])) (E9 o' L mo a k ws pl none none) = .ok (.sh (.int (if k == 8 then 1 else 0))) (E9 o' L mo a k ws pl none none) :=
      cb_ok (os := [.sh (.bl (k == 8))]) (cons_ok (bin_ok (x := .sh (.int k)) (e1 := E9 o' L mo a k ws pl none none) rfl nil_ok (by simp only [bodyFn, Ow.back, mSeq, mIf, M.bind, M.ret, M.no, slotM, mName, mMove, mKid, O.kid, mBin, ofOpt, ofOptB, ofG, mAsg, gM, gSet, gPut, frz, mRet, mExpr, mTst, mTru, mNotB, mAnd, mOr, mAndV, mOrV, mNotV, mNmTru, mLenNm, mCB, c1, mCons, mUn, mLst, mTup, mPart, mSl, O.er, O.ers, O.asB, addF, addI, subI, mulF, mulI, modI, fdivI, powI, ltI, leI, gtI, geI, ii0, iiF, eqF, neF, intF_int, intF_bl, D.asI, lenF, mNeNil, O.neNil, mKidPop, O.kidPop, isNF, notNF, D.isN, mNeg, mConsV, mConsL, mConsW, mCall, mCallK, takeA, putA, mCallP, mCallPK, peekA, List.map_cons, List.map_nil, List.cons_append, List.nil_append, List.replicate, List.getElem?_cons_zero, List.getElem?_cons_succ, List.getElem?_nil, List.set_cons_zero, List.set_cons_succ, List.set_nil, List.length_cons, List.length_nil, List.length_set, Option.map_some, Option.map_none, Option.bind_some, Option.bind_none, Nat.reduceAdd, Nat.reduceSub, Nat.reduceLT, Nat.reduceLeDiff, Nat.lt_add_one, if_true, if_false, reduceIte, Bool.false_eq_true, decide_true, decide_false, Bool.and_true, Bool.true_and, Bool.and_false, Bool.false_and, Bool.not_true, Bool.not_false, List.range_succ, List.range_zero, List.mem_cons, List.not_mem_nil, or_false, or_true, true_or, false_or, List.getD_cons_zero, List.getD_cons_succ, List.map_append, Nat.one_ne_zero, Nat.reduceEqDiff, reduceCtorEq, eq_self,eqb_int, eqv_int])) nil_ok) (intF_bl _)
    have s4 := slN h5' (part_ok (bin_ok h6' hi (addII pl (if k == 8 then 1 else 0))) rfl) (noneP _)
    have l2 := (h.cut (some (pl + (if k == 8 then 1 else 0))) none).lenS
    have l3 := h.lenS
    exact ⟨_, o', (if_t hk).trans (asgL (i := 5) (addLs s3 s4 (by rw [List.length_append, List.length_singleton]; omega)) (by show 5 < 9; omega)), ((h.cut none (some pl)).app (.one hz)).app (h.cut (some (pl + (if k == 8 then 1 else 0))) none), p3, fun z1 z2 => by rcases q with q | q; exact absurd q z1; exact absurd q z2⟩
  · have hb : ((1 : Int) == k || (8 : Int) == k) = false := by
      rw [Bool.or_eq_false_iff]
      exact ⟨beq_f (fun z => q (.inl z.symm)), beq_f (fun z => q (.inr z.symm))⟩
    rw [hb] at hk
    exact ⟨ws, o, (if_f hk).trans rfl, h.mono (by omega) (Nat.le_refl _), hs.mono (by omega), fun _ _ => rfl⟩
end L80

set_option Elab.async false
set_option linter.all false
set_option maxRecDepth 100000
set_option maxHeartbeats 4000000
namespace L80
open PySem PySem.Spec PyProof.Rows L2 Ow
theorem asgN {m : M O} {e e1 : Sl} {xs : List D} {i : Nat} (h : m e = .ok (.lst (xs.map O.sh)) e1) (hi : i < e1.length) : mAsg m (gSet i true) e = .ok .nx (e1.set i (some (.sh (.lst xs)))) := asgL h hi
/-- the words, joined -/
theorem be_join {n m : Nat} {ws : List D} (h : LS m n ws) (hb : n * m + m ≤ 100000) : ∃ z, joinF (" " : Str) (.lst ws) = some (.sh (.str z)) ∧ Ok (n * m + m) z := by
  obtain ⟨zs, rfl, h1, h2⟩ := h.back
  have l1 : (" " : Str).length = 1 := by decide +kernel
  have hs := sum_le zs h1
  have hm : n * zs.length ≤ n * m := Nat.mul_le_mul_left n h2
  refine ⟨Txt.join (" " : Str) zs, joinF_lst (by rw [l1]; omega), ?_⟩
  have gen : ∀ ps : List (List Nat), (∀ p ∈ ps, ∀ x ∈ p, x < 128) → (TL.joinL [32] ps).length ≤ (ps.map (·.length)).sum + ps.length ∧ ∀ x ∈ TL.joinL [32] ps, x < 128 := by
    intro ps
    induction ps with
    | nil => intro _; simp [TL.joinL]
    | cons p q ih =>
      intro hp
      match q, ih with
      | [], _ => exact ⟨by simp [TL.joinL], fun x hx => hp p List.mem_cons_self x (by simpa [TL.joinL] using hx)⟩
      | q :: r, ih =>
        obtain ⟨i1, i2⟩ := ih fun y hy => hp y (List.mem_cons_of_mem _ hy)
        have e : TL.joinL [32] (p :: q :: r) = p ++ ([32] ++ TL.joinL [32] (q :: r)) := rfl
        rw [e]
        refine ⟨by simp at i1 ⊢; omega, fun x hx => ?_⟩
        simp only [List.mem_append, List.mem_singleton] at hx
        rcases hx with hx | rfl | hx
        · exact hp p List.mem_cons_self x hx
        · decide
        · exact i2 x hx
  obtain ⟨g1, g2⟩ := gen (zs.map tl) fun p hp x hx => by
    obtain ⟨z, hz, rfl⟩ := List.mem_map.mp hp
    exact (h1 z hz).2 x hx
  have hsum : ((zs.map tl).map (·.length)).sum = (zs.map (·.length)).sum := by
    rw [List.map_map]
    congr 1
    try (apply List.map_congr_left; intro z _; exact (len_tl z).symm)
  rw [spS, join_tl]
  refine ⟨?_, fun c hc => ?_⟩
  · rw [len_tl, tl_S]
    rw [hsum, List.length_map] at g1
    omega
  · rw [tl_S] at hc
    exact g2 c hc
/-- the bent line is put back -/
theorem be_line {o : O} {L mo ws : List D} {a k pl : Int} {m n N : Nat} (h : LS m N L) (hm : m ≤ 1000) {z : Str} (hz : Ok N z) (hj : joinF (" " : Str) (.lst ws) = some (.sh (.str z))) (h0 : 0 ≤ a) (ha : a < L.length) :
    ∃ L', mAsg (mBin addF (mBin addF (mSl (mName 1) (M.ret none) (mPart (mName 3))) (mLst (mCons (mStr1 joinF (M.ret (.sh (.str (" " : Str)))) (mName 5)) (M.ret [])))) (mSl (mName 1) (mPart (mBin addF (mName 3) (M.ret (.sh (.int 1))))) (M.ret none))) (gSet 1 true) (E9 o L mo a k ws pl none none) = .ok Fl.nx (E9 o L' mo a k ws pl none none) ∧ LS (m + 1 + m) N L' ∧ a < L'.length := by
  have l1 := (h.cut none (some a)).lenS
  have l2 := (h.cut (some (a + 1)) none).lenS
  have h1 : mName 1 (E9 o L mo a k ws pl none none) = .ok (.sh (.lst L)) (E9 o L mo a k ws pl none none) := rfl
  have h3 : mName 3 (E9 o L mo a k ws pl none none) = .ok (.sh (.int a)) (E9 o L mo a k ws pl none none) := rfl
  have s1 := slN h1 (noneP _) (plain0 h3)
  have s2 : mLst (mCons (mStr1 joinF (M.ret (.sh (.str (" " : Str)))) (mName 5)) (M.ret [])) (E9 o L mo a k ws pl none none) = .ok (.lst ([D.str z].map O.sh)) (E9 o L mo a k ws pl none none) :=
    lst_ok (os := [.sh (.str z)]) (cons_ok (str1_ok (s := (" " : Str)) nil_ok rfl (y := .sh (.lst ws)) (e2 := E9 o L mo a k ws pl none none) rfl hj) nil_ok) (by show 1 ≤ sizeLine; decide)
  have s3 := slN h1 (plus1 h3) (noneP _)
  have c1 : (Ow.cutD L none (some a)).length = a.toNat := by
    unfold Ow.cutD
    have e1 : HT.sIx L.length 0 none = 0 := rfl
    obtain ⟨i, rfl⟩ : ∃ i : Nat, a = i := ⟨a.toNat, by omega⟩
    rw [e1, HT.sIx_nat]
    simp
    omega
  exact ⟨_, asgL (i := 1) (addLs (addLs s1 s2 (by rw [List.length_singleton]; omega)) s3 (by rw [List.length_append, List.length_singleton]; omega)) (by show 1 < 9; omega), ((h.cut none (some a)).app (.one hz)).app (h.cut (some (a + 1)) none), by rw [List.length_append, List.length_append, c1, List.length_singleton]; omega⟩
end L80

set_option Elab.async false
set_option linter.all false
set_option maxRecDepth 100000
set_option maxHeartbeats 4000000
namespace L80
open PySem PySem.Spec PyProof.Rows L2 Ow
theorem be_2 {o : O} {L mo ws : List D} {a k pl : Int} {m n : Nat} (h : LS m n L) (hm : m ≤ 1000) :
    ∃ L', mIf (mTst (mBin eqF (mName 4) (M.ret (.sh (.int 2))))) (mAsg (mBin addF (mSl (mName 1) (M.ret none) (mPart (mName 3))) (mSl (mName 1) (mPart (mBin addF (mName 3) (M.ret (.sh (.int 1))))) (M.ret none))) (gSet 1 true)) (M.ret Fl.nx) (E9 o L mo a k ws pl none none) = .ok Fl.nx (E9 o L' mo a k ws pl none none) ∧ LS (m + m) n L' ∧ (k ≠ 2 → L' = L) := by
  have hk := kindE 4 (e := E9 o L mo a k ws pl none none) (k := k) (j := 2) rfl
  by_cases q : k = 2
  · rw [beq_t q] at hk
    have l1 := (h.cut none (some a)).lenS
    have l2 := (h.cut (some (a + 1)) none).lenS
    have h5 : mName 1 (E9 o L mo a k ws pl none none) = .ok (.sh (.lst L)) (E9 o L mo a k ws pl none none) := rfl
    have h6 : mName 3 (E9 o L mo a k ws pl none none) = .ok (.sh (.int a)) (E9 o L mo a k ws pl none none) := rfl
    have s1 := slN h5 (noneP _) (plain0 h6)
    have s2 := slN h5 (plus1 h6) (noneP _)
    exact ⟨_, (if_t hk).trans (asgL (i := 1) (addLs s1 s2 (by omega)) (by show 1 < 9; omega)), (h.cut none (some a)).app (h.cut (some (a + 1)) none), fun z => absurd q z⟩
  · rw [beq_f q] at hk
    exact ⟨L, (if_f hk).trans rfl, h.mono (by omega) (Nat.le_refl _), fun _ => rfl⟩
theorem be_3 {o : O} {L mo ws : List D} {a k pl : Int} {m n : Nat} (h : LS m n L) (hm : m ≤ 1000) :
    ∃ L', mIf (mTst (mBin eqF (mName 4) (M.ret (.sh (.int 3))))) (mAsg (mBin addF (mSl (mName 1) (M.ret none) (mPart (mBin addF (mName 3) (M.ret (.sh (.int 1)))))) (mSl (mName 1) (mPart (mName 3)) (M.ret none))) (gSet 1 true)) (M.ret Fl.nx) (E9 o L mo a k ws pl none none) = .ok Fl.nx (E9 o L' mo a k ws pl none none) ∧ LS (m + m) n L' ∧ (k ≠ 3 → L' = L) := by
  have hk := kindE 4 (e := E9 o L mo a k ws pl none none) (k := k) (j := 3) rfl
  by_cases q : k = 3
  · rw [beq_t q] at hk
    have l1 := (h.cut none (some (a + 1))).lenS
    have l2 := (h.cut (some a) none).lenS
    have h5 : mName 1 (E9 o L mo a k ws pl none none) = .ok (.sh (.lst L)) (E9 o L mo a k ws pl none none) := rfl
    have h6 : mName 3 (E9 o L mo a k ws pl none none) = .ok (.sh (.int a)) (E9 o L mo a k ws pl none none) := rfl
    have s1 := slN h5 (noneP _) (plus1 h6)
    have s2 := slN h5 (plain0 h6) (noneP _)
    exact ⟨_, (if_t hk).trans (asgL (i := 1) (addLs s1 s2 (by omega)) (by show 1 < 9; omega)), (h.cut none (some (a + 1))).app (h.cut (some a) none), fun z => absurd q z⟩
  · rw [beq_f q] at hk
    exact ⟨L, (if_f hk).trans rfl, h.mono (by omega) (Nat.le_refl _), fun _ => rfl⟩
theorem be_5 {o : O} {L mo ws : List D} {a k pl : Int} {m n : Nat} (h : LS m n L) :
    ∃ L', mIf (mTst (mBin eqF (mName 4) (M.ret (.sh (.int 5))))) (mAsg (mSl (mName 1) (M.ret none) (mPart (mName 3))) (gSet 1 true)) (M.ret Fl.nx) (E9 o L mo a k ws pl none none) = .ok Fl.nx (E9 o L' mo a k ws pl none none) ∧ LS m n L' := by
  have hk := kindE 4 (e := E9 o L mo a k ws pl none none) (k := k) (j := 5) rfl
  by_cases q : k = 5
  · rw [beq_t q] at hk
    have h5 : mName 1 (E9 o L mo a k ws pl none none) = .ok (.sh (.lst L)) (E9 o L mo a k ws pl none none) := rfl
    have h6 : mName 3 (E9 o L mo a k ws pl none none) = .ok (.sh (.int a)) (E9 o L mo a k ws pl none none) := rfl
    exact ⟨_, (if_t hk).trans (asgL (i := 1) (slN h5 (noneP _) (plain0 h6)) (by show 1 < 9; omega)), h.cut none (some a)⟩
  · rw [beq_f q] at hk
    exact ⟨L, (if_f hk).trans rfl, h⟩
theorem ixD {L : List D} {a : Int} (h0 : 0 ≤ a) (ha : a < L.length) : ∃ x ∈ L, ixF (.lst L) (.int a) = some (.sh x) := by
  obtain ⟨i, rfl⟩ : ∃ i : Nat, a = i := ⟨a.toNat, by omega⟩
  have hi : i < L.length := by omega
  exact ⟨L[i], List.getElem_mem hi, ixL (List.getElem?_eq_getElem hi)⟩
theorem be_4 {o : O} {L mo ws : List D} {a k pl : Int} {m n : Nat} (h : LS m n L) (hm : m ≤ 1000) (h0 : 0 ≤ a) (ha : k = 4 → a < L.length) :
    ∃ L', mIf (mAnd (mTst (mBin eqF (mName 4) (M.ret (.sh (.int 4))))) (mTst (mBin gtI (mName 3) (M.ret (.sh (.int 0)))))) (mAsg (mBin addF (mBin addF (mSl (mName 1) (M.ret none) (mPart (mBin subI (mName 3) (M.ret (.sh (.int 1)))))) (mLst (mCons (mBin ixF (mName 1) (mName 3)) (mCons (mBin ixF (mName 1) (mBin subI (mName 3) (M.ret (.sh (.int 1))))) (M.ret []))))) (mSl (mName 1) (mPart (mBin addF (mName 3) (M.ret (.sh (.int 1))))) (M.ret none))) (gSet 1 true)) (M.ret Fl.nx) (E9 o L mo a k ws pl none none) = .ok Fl.nx (E9 o L' mo a k ws pl none none) ∧ LS (m + 2 + m) n L' ∧ (k ≠ 4 → L' = L) := by
  have hk := kindE 4 (e := E9 o L mo a k ws pl none none) (k := k) (j := 4) rfl
  have hg : mTst (mBin gtI (mName 3) (M.ret (.sh (.int 0)))) (E9 o L mo a k ws pl none none) = .ok (decide (0 < a)) (E9 o L mo a k ws pl none none) :=
    tst_ok (bin_ok (x := .sh (.int a)) (e1 := E9 o L mo a k ws pl none none) rfl nil_ok (o := .sh (.bl (decide (0 < a)))) rfl) rfl
  by_cases q : k = 4
  · rw [beq_t q] at hk
    by_cases p : 0 < a
    · rw [decide_eq_true p] at hg
      have l1 := (h.cut none (some (a - 1))).lenS
      have l2 := (h.cut (some (a + 1)) none).lenS
      have h5 : mName 1 (E9 o L mo a k ws pl none none) = .ok (.sh (.lst L)) (E9 o L mo a k ws pl none none) := rfl
      have h6 : mName 3 (E9 o L mo a k ws pl none none) = .ok (.sh (.int a)) (E9 o L mo a k ws pl none none) := rfl
      have hsub : mBin subI (mName 3) (M.ret (.sh (.int 1))) (E9 o L mo a k ws pl none none) = .ok (.sh (.int (a - 1))) (E9 o L mo a k ws pl none none) := bin_ok h6 nil_ok (subII a 1)
      obtain ⟨x, hx, ex⟩ := ixD h0 (ha q)
      obtain ⟨y, hy, ey⟩ := ixD (a := a - 1) (L := L) (by omega) (by have := ha q; omega)
      have s1 := slN h5 (noneP _) (part_ok hsub rfl)
      have s2 : mLst (mCons (mBin ixF (mName 1) (mName 3)) (mCons (mBin ixF (mName 1) (mBin subI (mName 3) (M.ret (.sh (.int 1))))) (M.ret []))) (E9 o L mo a k ws pl none none) = .ok (.lst ([x, y].map O.sh)) (E9 o L mo a k ws pl none none) :=
        lst_ok (os := [.sh x, .sh y]) (cons_ok (bin_ok h5 h6 ex) (cons_ok (bin_ok h5 hsub ey) nil_ok)) (by show 2 ≤ sizeLine; decide)
      have s3 := slN h5 (plus1 h6) (noneP _)
      have hxy : LS 2 n [x, y] := ⟨by simp, fun w hw => by
        simp only [List.mem_cons, List.not_mem_nil, or_false] at hw
        rcases hw with rfl | rfl
        · exact h.allS _ hx
        · exact h.allS _ hy⟩
      exact ⟨_, (if_t ((and_t hk).trans hg)).trans (asgL (i := 1) (addLs (addLs s1 s2 (by have := hxy.lenS; omega)) s3 (by rw [List.length_append]; have := hxy.lenS; omega)) (by show 1 < 9; omega)), ((h.cut none (some (a - 1))).app hxy).app (h.cut (some (a + 1)) none), fun z => absurd q z⟩
    · rw [decide_eq_false p] at hg
      exact ⟨L, (if_f ((and_t hk).trans hg)).trans rfl, h.mono (by omega) (Nat.le_refl _), fun _ => rfl⟩
  · rw [beq_f q] at hk
    exact ⟨L, (if_f (and_f hk)).trans rfl, h.mono (by omega) (Nat.le_refl _), fun _ => rfl⟩
end L80

set_option Elab.async false
set_option linter.all false
set_option maxRecDepth 100000
set_option maxHeartbeats 4000000
namespace L80
open PySem PySem.Spec PyProof.Rows L2 Ow
/-- the bent text -/
theorem be_text {o : O} {L mo ws : List D} {a k pl : Int} {m n : Nat} (h : LS m n L) (hm : m ≤ 1000) (hn : n ≤ 2000) (hb : (n + 1) * m ≤ 100000) :
    ∃ s, mAsg (mStr1 joinF (M.ret (.sh (.str ("" : Str)))) (mComp [8] true (mWalk (mName 1)) (gSet 8 true) (M.ret true) (mBin addF (mName 8) (M.ret (.sh (.str ("\n" : Str))))))) (gSet 7 true) (E9 o L mo a k ws pl none none) = .ok Fl.nx (E9 o L mo a k ws pl (some (.sh (.str s))) none) ∧ Ok ((n + 1) * m) s := by
  obtain ⟨zs, rfl, h1, h2⟩ := h.back
  have ha : ∀ y ∈ zs.map (fun z => z ++ ("\n" : Str)), Ok (n + 1) y := fun y hy => by
    obtain ⟨z, hz, rfl⟩ := List.mem_map.mp hy
    exact (h1 z hz).app nl_ok
  have hk : mCompK [8] true (gSet 8 true) (M.ret true) (mBin addF (mName 8) (M.ret (.sh (.str ("\n" : Str))))) (zs.map D.str) (E9 o (zs.map D.str) mo a k ws pl none none) = .ok (.lst ((zs.map D.str).map fun d => .sh (match d with | .str w => .str (w ++ ("\n" : Str)) | d => d))) (E9 o (zs.map D.str) mo a k ws pl none none) := by
    refine compK1 (e0 := E9 o (zs.map D.str) mo a k ws pl none none) (fun d => match d with | .str w => .str (w ++ ("\n" : Str)) | d => d) rfl rfl rfl fun d hd => ?_
    obtain ⟨w, hw, rfl⟩ := List.mem_map.mp hd
    refine ⟨_, .sh (.str (w ++ ("\n" : Str))), E9 o (zs.map D.str) mo a k ws pl none (some (.sh (.str w))), rfl, bin_ok (x := .sh (.str w)) (e1 := E9 o (zs.map D.str) mo a k ws pl none (some (.sh (.str w)))) rfl nil_ok ?_, rfl, rfl⟩
    exact addStr (n := 2000) (by have := (h1 w hw).1; omega) (by rw [nl_len]; omega) (by omega)
  have hr : (O.lst ((zs.map D.str).map fun d => O.sh (match d with | .str w => .str (w ++ ("\n" : Str)) | d => d))).er = .lst ((zs.map (fun z => z ++ ("\n" : Str))).map D.str) := by
    show D.lst (O.ers _) = _
    rw [O.ers_map, List.map_map, List.map_map, List.map_map]; rfl
  have hj : joinF ("" : Str) (.lst ((zs.map (fun z => z ++ ("\n" : Str))).map D.str)) = some (.sh (.str (Txt.join ("" : Str) (zs.map (fun z => z ++ ("\n" : Str)))))) := joinF_E (n := n + 1) (m := m) ha (by simpa using h2) (by omega)
  refine ⟨Txt.join ("" : Str) (zs.map (fun z => z ++ ("\n" : Str))), asg_ok (o := .sh (.str (Txt.join ("" : Str) (zs.map (fun z => z ++ ("\n" : Str)))))) (str1_ok (s := ("" : Str)) nil_ok rfl (comp_ok (walk_ok (x := .sh (.lst (zs.map D.str))) (e1 := E9 o (zs.map D.str) mo a k ws pl none none) rfl rfl) hk) (by rw [hr]; exact hj)) rfl, joinE_ok ha (by simpa using h2)⟩
end L80

set_option Elab.async false
set_option linter.all false
set_option maxRecDepth 100000
set_option maxHeartbeats 4000000
namespace L80
open PySem PySem.Spec PyProof.Rows L2 Ow
/-- kind 7, and what is left -/
theorem be_7 {o : O} {L mo ws : List D} {a k pl : Int} {n : Nat} {s : Str} (h : Ok n s) (hn : n ≤ 100000) :
    ∃ s', mRet (mIf (mAnd (mTst (mBin eqF (mName 4) (M.ret (.sh (.int 7))))) (mTst (mBin neF (mName 7) (M.ret (.sh (.str ("" : Str))))))) (mSl (mName 7) (M.ret none) (mPart (mBin subI (mLenNm 7) (M.ret (.sh (.int 1)))))) (mName 7)) (E9 o L mo a k ws pl (some (.sh (.str s))) none) = .ok (.rt (.sh (.str s'))) (E9 o L mo a k ws pl (some (.sh (.str s))) none) ∧ Ok n s' := by
  have hk := kindE 4 (e := E9 o L mo a k ws pl (some (.sh (.str s))) none) (k := k) (j := 7) rfl
  have h7 : mName 7 (E9 o L mo a k ws pl (some (.sh (.str s))) none) = .ok (.sh (.str s)) (E9 o L mo a k ws pl (some (.sh (.str s))) none) := rfl
  have ee : (D.str ("" : Str)).eqb = true := (okS ("" : Str) (by decide +kernel)).eqb
  have hl : s.length ≤ sizeLine := by have := h.1; rw [sizeLine_v]; omega
  by_cases q : k = 7
  · rw [beq_t q] at hk
    have hg : mTst (mBin neF (mName 7) (M.ret (.sh (.str ("" : Str))))) (E9 o L mo a k ws pl (some (.sh (.str s))) none) = .ok (!(s == ("" : Str))) (E9 o L mo a k ws pl (some (.sh (.str s))) none) :=
      tst_ok (bin_ok h7 nil_ok (o := .sh (.bl (!(s == ("" : Str))))) (by simp only [bodyFn, Ow.back, mSeq, mIf, M.bind, M.ret, M.no, slotM, mName, mMove, mKid, O.kid, mBin, ofOpt, ofOptB, ofG, mAsg, gM, gSet, gPut, frz, mRet, mExpr, mTst, mTru, mNotB, mAnd, mOr, mAndV, mOrV, mNotV, mNmTru, mLenNm, mCB, c1, mCons, mUn, mLst, mTup, mPart, mSl, O.er, O.ers, O.asB, addF, addI, subI, mulF, mulI, modI, fdivI, powI, ltI, leI, gtI, geI, ii0, iiF, eqF, neF, intF_int, intF_bl, D.asI, lenF, mNeNil, O.neNil, mKidPop, O.kidPop, isNF, notNF, D.isN, mNeg, mConsV, mConsL, mConsW, mCall, mCallK, takeA, putA, mCallP, mCallPK, peekA, List.map_cons, List.map_nil, List.cons_append, List.nil_append, List.replicate, List.getElem?_cons_zero, List.getElem?_cons_succ, List.getElem?_nil, List.set_cons_zero, List.set_cons_succ, List.set_nil, List.length_cons, List.length_nil, List.length_set, Option.map_some, Option.map_none, Option.bind_some, Option.bind_none, Nat.reduceAdd, Nat.reduceSub, Nat.reduceLT, Nat.reduceLeDiff, Nat.lt_add_one, if_true, if_false, reduceIte, Bool.false_eq_true, decide_true, decide_false, Bool.and_true, Bool.true_and, Bool.and_false, Bool.false_and, Bool.not_true, Bool.not_false, List.range_succ, List.range_zero, List.mem_cons, List.not_mem_nil, or_false, or_true, true_or, false_or, List.getD_cons_zero, List.getD_cons_succ, List.map_append, Nat.one_ne_zero, Nat.reduceEqDiff, reduceCtorEq, eq_self,h.eqb, ee, eqv_str])) rfl
    cases p : s == ("" : Str) with
    | false =>
      rw [p] at hg
      have hlen : mLenNm 7 (E9 o L mo a k ws pl (some (.sh (.str s))) none) = .ok (.sh (.int s.length)) (E9 o L mo a k ws pl (some (.sh (.str s))) none) := by
        simp only [bodyFn, Ow.back, mSeq, mIf, M.bind, M.ret, M.no, slotM, mName, mMove, mKid, O.kid, mBin, ofOpt, ofOptB, ofG, mAsg, gM, gSet, gPut, frz, mRet, mExpr, mTst, mTru, mNotB, mAnd, mOr, mAndV, mOrV, mNotV, mNmTru, mLenNm, mCB, c1, mCons, mUn, mLst, mTup, mPart, mSl, O.er, O.ers, O.asB, addF, addI, subI, mulF, mulI, modI, fdivI, powI, ltI, leI, gtI, geI, ii0, iiF, eqF, neF, intF_int, intF_bl, D.asI, lenF, mNeNil, O.neNil, mKidPop, O.kidPop, isNF, notNF, D.isN, mNeg, mConsV, mConsL, mConsW, mCall, mCallK, takeA, putA, mCallP, mCallPK, peekA, List.map_cons, List.map_nil, List.cons_append, List.nil_append, List.replicate, List.getElem?_cons_zero, List.getElem?_cons_succ, List.getElem?_nil, List.set_cons_zero, List.set_cons_succ, List.set_nil, List.length_cons, List.length_nil, List.length_set, Option.map_some, Option.map_none, Option.bind_some, Option.bind_none, Nat.reduceAdd, Nat.reduceSub, Nat.reduceLT, Nat.reduceLeDiff, Nat.lt_add_one, if_true, if_false, reduceIte, Bool.false_eq_true, decide_true, decide_false, Bool.and_true, Bool.true_and, Bool.and_false, Bool.false_and, Bool.not_true, Bool.not_false, List.range_succ, List.range_zero, List.mem_cons, List.not_mem_nil, or_false, or_true, true_or, false_or, List.getD_cons_zero, List.getD_cons_succ, List.map_append, Nat.one_ne_zero, Nat.reduceEqDiff, reduceCtorEq, eq_self,len_str hl]
      exact ⟨_, ret_ok ((if_t ((and_t hk).trans hg)).trans (slS_ok h7 rfl (noneP _) (part_ok (bin_ok hlen nil_ok (subII _ 1)) rfl) (by have := h.1; omega))), cutS_ok h _ _⟩
    | true =>
      rw [p] at hg
      exact ⟨s, ret_ok ((if_f ((and_t hk).trans hg)).trans h7), h⟩
  · rw [beq_f q] at hk
    exact ⟨s, ret_ok ((if_f (and_f hk)).trans h7), h⟩
end L80

set_option Elab.async false
set_option linter.all false
set_option maxRecDepth 100000
set_option maxHeartbeats 4000000
namespace L80
open PySem PySem.Spec PyProof.Rows L2 Ow
abbrev sgnS : Str := " \nab01w-*\t"
theorem sgn_l : listF (.str sgnS) = some (.lst ((signsD sgnS).map O.sh)) := by
  have e : listF (.str sgnS) = if sgnS.length ≤ sizeLine then some (.lst ((signsD sgnS).map .sh)) else none := rfl
  rw [e, if_pos (by decide +kernel)]
theorem sgn_all : (signsD sgnS).length = 10 ∧ ∀ x ∈ signsD sgnS, ∃ z, x = .str z ∧ Ok 1 z := by
  have e : tl sgnS = [32, 10, 97, 98, 48, 49, 119, 45, 42, 9] := by decide +kernel
  have e2 : signsD sgnS = (tl sgnS).map fun c => D.str ⟨#[c]⟩ := rfl
  rw [e2, e]
  refine ⟨rfl, fun x hx => ?_⟩
  obtain ⟨c, hc, rfl⟩ := List.mem_map.mp hx
  refine ⟨_, rfl, Nat.le_refl 1, fun d hd => ?_⟩
  have : d = c := by simpa [tl] using hd
  subst this
  simp only [List.mem_cons, List.not_mem_nil, or_false] at hc
  omega
theorem be_6 (c : Cs) {N : Int} {o : O} (hs : Stm N o) (hN : N + 3 ≤ 1000000) {L mo ws : List D} {a k pl : Int} {n : Nat} {s : Str} (h : Ok n s) (hn : n ≤ 40000) (hk6 : k = 6) :
    ∃ s' o' pl', mIf (mTst (mBin eqF (mName 4) (M.ret (.sh (.int 6))))) (mSeq (mAsg (mCall (fun os => if os.length = 2 then (csUp (csUp c))._law_below os else .no) (slotM 0 fun _ => mConsL 0 (mConsV (mBin addF (mLenNm 7) (M.ret (.sh (.int 1)))) (M.ret [])))) (gSet 6 true)) (mRet (mBin addF (mBin addF (mSl (mName 7) (M.ret none) (mPart (mName 6))) (mCall (fun os => if os.length = 2 then (csUp (csUp c))._law_pick os else .no) (slotM 0 fun _ => mConsL 0 (mConsV (mCB (c1 listF) (mCons (M.ret (.sh (.str (" \nab01w-*\t" : Str)))) (M.ret []))) (M.ret []))))) (mSl (mName 7) (mPart (mBin addF (mName 6) (mCall (fun os => if os.length = 2 then (csUp (csUp c))._law_below os else .no) (slotM 0 fun _ => mConsL 0 (mConsV (M.ret (.sh (.int 2))) (M.ret [])))))) (M.ret none))))) (M.ret Fl.nx) (E9 o L mo a k ws pl (some (.sh (.str s))) none) = .ok (.rt (.sh (.str s'))) (E9 o' L mo a k ws pl' (some (.sh (.str s))) none) ∧ Ok (n + 1 + n) s' ∧ Stm (N + 3) o' := by
  have hk := kindE 4 (e := E9 o L mo a k ws pl (some (.sh (.str s))) none) (k := k) (j := 6) rfl
  rw [beq_t hk6] at hk
  have hl : s.length ≤ sizeLine := by have := h.1; rw [sizeLine_v]; omega
  have hln := h.1
  obtain ⟨r, o1, p1, r0, r1, t1⟩ := below_ok (csUp c) hs (by omega) (many := (s.length : Int) + 1) (by omega) (by omega)
  have q1 : (csUp (csUp c))._law_below [o, .sh (.int ((s.length : Int) + 1))] = _ := p1
  obtain ⟨x, o2, p2, x1, t2⟩ := pick_ok c t1 (by omega) (xs := signsD sgnS) (by intro z; have := sgn_all.1; rw [z] at this; cases this) (by rw [sgn_all.1]; omega)
  have q2 : (csUp (csUp c))._law_pick [o1, .sh (.lst (signsD sgnS))] = _ := p2
  obtain ⟨z, rfl, hz⟩ := sgn_all.2 x x1
  obtain ⟨r3, o3, p3, r30, r31, t3⟩ := below_ok (csUp c) t2 (by omega) (many := 2) (by omega) (by omega)
  have q3 : (csUp (csUp c))._law_below [o2, .sh (.int 2)] = _ := p3
  have hlen : mBin addF (mLenNm 7) (M.ret (.sh (.int 1))) (E9 o L mo a k ws pl (some (.sh (.str s))) none) = .ok (.sh (.int ((s.length : Int) + 1))) (E9 o L mo a k ws pl (some (.sh (.str s))) none) := by
    simp only [bodyFn, Ow.back, mSeq, mIf, M.bind, M.ret, M.no, slotM, mName, mMove, mKid, O.kid, mBin, ofOpt, ofOptB, ofG, mAsg, gM, gSet, gPut, frz, mRet, mExpr, mTst, mTru, mNotB, mAnd, mOr, mAndV, mOrV, mNotV, mNmTru, mLenNm, mCB, c1, mCons, mUn, mLst, mTup, mPart, mSl, O.er, O.ers, O.asB, addF, addI, subI, mulF, mulI, modI, fdivI, powI, ltI, leI, gtI, geI, ii0, iiF, eqF, neF, intF_int, intF_bl, D.asI, lenF, mNeNil, O.neNil, mKidPop, O.kidPop, isNF, notNF, D.isN, mNeg, mConsV, mConsL, mConsW, mCall, mCallK, takeA, putA, mCallP, mCallPK, peekA, List.map_cons, List.map_nil, List.cons_append, List.nil_append, List.replicate, List.getElem?_cons_zero, List.getElem?_cons_succ, List.getElem?_nil, List.set_cons_zero, List.set_cons_succ, List.set_nil, List.length_cons, List.length_nil, List.length_set, Option.map_some, Option.map_none, Option.bind_some, Option.bind_none, Nat.reduceAdd, Nat.reduceSub, Nat.reduceLT, Nat.reduceLeDiff, Nat.lt_add_one, if_true, if_false, reduceIte, Bool.false_eq_true, decide_true, decide_false, Bool.and_true, Bool.true_and, Bool.and_false, Bool.false_and, Bool.not_true, Bool.not_false, List.range_succ, List.range_zero, List.mem_cons, List.not_mem_nil, or_false, or_true, true_or, false_or, List.getD_cons_zero, List.getD_cons_succ, List.map_append, Nat.one_ne_zero, Nat.reduceEqDiff, reduceCtorEq, eq_self,len_str hl]
  have a1 : mAsg (mCall (fun os => if os.length = 2 then (csUp (csUp c))._law_below os else .no) (slotM 0 fun _ => mConsL 0 (mConsV (mBin addF (mLenNm 7) (M.ret (.sh (.int 1)))) (M.ret [])))) (gSet 6 true) (E9 o L mo a k ws pl (some (.sh (.str s))) none) = .ok .nx (E9 o1 L mo a k ws r (some (.sh (.str s))) none) :=
    asg_ok (callL rfl hlen (ol := o) rfl q1) rfl
  have n7 : ∀ o, mName 7 (E9 o L mo a k ws r (some (.sh (.str s))) none) = .ok (.sh (.str s)) (E9 o L mo a k ws r (some (.sh (.str s))) none) := fun _ => rfl
  have n6 : ∀ o, mName 6 (E9 o L mo a k ws r (some (.sh (.str s))) none) = .ok (.sh (.int r)) (E9 o L mo a k ws r (some (.sh (.str s))) none) := fun _ => rfl
  have b1 := slS_ok (n7 o1) rfl (noneP _) (plain0 (n6 o1)) (by omega)
  have hp : mCall (fun os => if os.length = 2 then (csUp (csUp c))._law_pick os else .no) (slotM 0 fun _ => mConsL 0 (mConsV (mCB (c1 listF) (mCons (M.ret (.sh (.str sgnS))) (M.ret []))) (M.ret []))) (E9 o1 L mo a k ws r (some (.sh (.str s))) none) = .ok (.sh (.str z)) (E9 o2 L mo a k ws r (some (.sh (.str s))) none) :=
    callL rfl (cb_ok (os := [.sh (.str sgnS)]) rfl sgn_l) (ol := o1) rfl (by rw [lstSh_er]; exact q2)
  have c1 := cutS_ok h none (some r)
  have b2 := bin_ok b1 hp (addStr (n := 40000) (by have := c1.1; omega) (by have := hz.1; omega) (by omega))
  have hq : mBin addF (mName 6) (mCall (fun os => if os.length = 2 then (csUp (csUp c))._law_below os else .no) (slotM 0 fun _ => mConsL 0 (mConsV (M.ret (.sh (.int 2))) (M.ret [])))) (E9 o2 L mo a k ws r (some (.sh (.str s))) none) = .ok (.sh (.int (r + r3))) (E9 o3 L mo a k ws r (some (.sh (.str s))) none) :=
    bin_ok (n6 o2) (callL rfl (o := .sh (.int 2)) rfl (ol := o2) rfl q3) (addII r r3)
  have b3 := slS_ok (n7 o2) rfl (part_ok hq rfl) (noneP _) (by omega)
  have c2 := cutS_ok h (some (r + r3)) none
  have c3 := c1.app hz
  have b4 := bin_ok b2 b3 (addStr (n := 100000) (by have := c3.1; omega) (by have := c2.1; omega) (by omega))
  exact ⟨_, o3, r, (if_t hk).trans ((seq_nx a1).trans (ret_ok b4)), c3.app c2, t3.mono (by omega)⟩
end L80

set_option Elab.async false
set_option linter.all false
set_option maxRecDepth 100000
set_option maxHeartbeats 4000000
namespace L80
open PySem PySem.Spec PyProof.Rows L2 Ow
theorem mbent_ok (c : Cs) {N : Int} {o : O} (hs : Stm N o) (hN : N + 10 ≤ 1000000) {L mo : List D} (hL : LS 9 18 L) (hne : L ≠ []) (hmo : LS 20 18 mo) (hmn : mo ≠ []) :
    ∃ s o', b__law_mbent (csUp (csUp c)) [o, .sh (.lst L), .sh (.lst mo)] = .ok (.sh (.str s)) [some o', none, none] ∧ Ok 100000 s ∧ Stm (N + 10) o' := by
  have hlen : 0 < L.length := List.length_pos_iff.mpr hne
  have hL9 := hL.lenS
  obtain ⟨a, o1, p1, a0, a1, t1⟩ := below_ok (csUp c) hs (by omega) (many := L.length) (by omega) (by omega)
  have q1 : (csUp (csUp c))._law_below [o, .sh (.int L.length)] = _ := p1
  obtain ⟨k, o2, p2, k0, k1, t2⟩ := below_ok (csUp c) t1 (by omega) (many := 9) (by omega) (by omega)
  have q2 : (csUp (csUp c))._law_below [o1, .sh (.int 9)] = _ := p2
  obtain ⟨x, hx, ex⟩ := ixD a0 a1
  obtain ⟨line, rfl, hline⟩ := hL.allS x hx
  have hsp : splitF line (.str (" " : Str)) = _ := splitF_ok' (c := 32) (by decide) spS hline (by omega)
  have hpa := parts_ok (c := 32) hline
  have hws : LS 19 18 ((parts 32 line).map D.str) := (LS.map hpa.2).mono hpa.1 (Nat.le_refl _)
  have hwl : 0 < ((parts 32 line).map D.str).length := by rw [List.length_map]; exact List.length_pos_iff.mpr (parts_ne 32 line)
  generalize hW : (parts 32 line).map D.str = ws at hws hwl
  have hw19 := hws.lenS
  obtain ⟨pl, o3, p3, pl0, pl1, t3⟩ := below_ok (csUp c) t2 (by omega) (many := ws.length) (by omega) (by omega)
  have q3 : (csUp (csUp c))._law_below [o2, .sh (.int ws.length)] = _ := p3
  have b1 : mPar 3 4 true true (mCons (mCall (fun os => if os.length = 2 then (csUp (csUp c))._law_below os else .no) (slotM 0 fun _ => mConsL 0 (mConsV (mLenNm 1) (M.ret [])))) (mCons (mCall (fun os => if os.length = 2 then (csUp (csUp c))._law_below os else .no) (slotM 0 fun _ => mConsL 0 (mConsV (M.ret (.sh (.int 9))) (M.ret [])))) (M.ret []))) [some o, some (.sh (.lst L)), some (.sh (.lst mo)), none, none, none, none, none, none] = .ok .nx [some o2, some (.sh (.lst L)), some (.sh (.lst mo)), some (.sh (.int a)), some (.sh (.int k)), none, none, none, none] := by
    unfold mPar
    have z1 : mCall (fun os => if os.length = 2 then (csUp (csUp c))._law_below os else .no) (slotM 0 fun _ => mConsL 0 (mConsV (mLenNm 1) (M.ret []))) [some o, some (.sh (.lst L)), some (.sh (.lst mo)), none, none, none, none, none, none] = .ok (.sh (.int a)) [some o1, some (.sh (.lst L)), some (.sh (.lst mo)), none, none, none, none, none, none] := callL (o := .sh (.int L.length)) (e1 := [some o, some (.sh (.lst L)), some (.sh (.lst mo)), none, none, none, none, none, none]) rfl rfl rfl q1
    have z2 : mCall (fun os => if os.length = 2 then (csUp (csUp c))._law_below os else .no) (slotM 0 fun _ => mConsL 0 (mConsV (M.ret (.sh (.int 9))) (M.ret []))) [some o1, some (.sh (.lst L)), some (.sh (.lst mo)), none, none, none, none, none, none] = .ok (.sh (.int k)) [some o2, some (.sh (.lst L)), some (.sh (.lst mo)), none, none, none, none, none, none] := callL (o := .sh (.int 9)) (e1 := [some o1, some (.sh (.lst L)), some (.sh (.lst mo)), none, none, none, none, none, none]) rfl rfl rfl q2
    rw [bind_ok (cons_ok z1 (cons_ok z2 nil_ok))]
    rfl
  have hz : (O.lst ((parts 32 line).map fun z => O.sh (.str z))).er = .lst ws := by
    rw [← hW]
    show D.lst (O.ers _) = _
    rw [O.ers_map, List.map_map]; rfl
  have b2 : mAsg (mStr1 splitF (mBin ixF (mName 1) (mName 3)) (M.ret (.sh (.str (" " : Str))))) (gSet 5 true) [some o2, some (.sh (.lst L)), some (.sh (.lst mo)), some (.sh (.int a)), some (.sh (.int k)), none, none, none, none] = .ok .nx [some o2, some (.sh (.lst L)), some (.sh (.lst mo)), some (.sh (.int a)), some (.sh (.int k)), some (.sh (.lst ws)), none, none, none] :=
    asg_ok (str1_ok (s := line) (x := .sh (.str line)) (bin_ok (x := .sh (.lst L)) (y := .sh (.int a)) (e1 := [some o2, some (.sh (.lst L)), some (.sh (.lst mo)), some (.sh (.int a)), some (.sh (.int k)), none, none, none, none]) (e2 := [some o2, some (.sh (.lst L)), some (.sh (.lst mo)), some (.sh (.int a)), some (.sh (.int k)), none, none, none, none]) rfl rfl ex) rfl nil_ok hsp) (by show some [some o2, some (.sh (.lst L)), some (.sh (.lst mo)), some (.sh (.int a)), some (.sh (.int k)), some (.sh (O.lst ((parts 32 line).map fun z => O.sh (.str z))).er), none, none, none] = _; rw [hz])
  have b3 : mAsg (mCall (fun os => if os.length = 2 then (csUp (csUp c))._law_below os else .no) (slotM 0 fun _ => mConsL 0 (mConsV (mLenNm 5) (M.ret [])))) (gSet 6 true) [some o2, some (.sh (.lst L)), some (.sh (.lst mo)), some (.sh (.int a)), some (.sh (.int k)), some (.sh (.lst ws)), none, none, none] = .ok .nx (E9 o3 L mo a k ws pl none none) :=
    asg_ok (callL (o := .sh (.int ws.length)) (e1 := [some o2, some (.sh (.lst L)), some (.sh (.lst mo)), some (.sh (.int a)), some (.sh (.int k)), some (.sh (.lst ws)), none, none, none]) rfl rfl rfl q3) rfl
  obtain ⟨w0, b4, lw0, f0⟩ := be_w0 (o := o3) (L := L) (mo := mo) (a := a) (k := k) (pl := pl) hws (by omega)
  obtain ⟨w1, o4, b5, lw1, t4, f1⟩ := be_w1 c t3 (by omega) (L := L) (mo := mo) (a := a) (k := k) (pl := pl) lw0 (by omega) hmo hmn
  have lw : LS 39 18 w1 := by
    by_cases z : k = 0
    · rw [f1 (by omega) (by omega)]; exact lw0.mono (by omega) (Nat.le_refl _)
    · have e0 := f0 z
      by_cases z2 : k = 1 ∨ k = 8
      · obtain ⟨w1', o4', b5', lw1', _, _⟩ := be_w1 c t3 (by omega) (L := L) (mo := mo) (a := a) (k := k) (pl := pl) hws (by omega) hmo hmn
        rw [e0] at b5
        have := b5.symm.trans b5'
        have e : w1 = w1' := by
          injection this with _ h2
          simp only [E9, List.cons.injEq, Option.some.injEq, O.sh.injEq, D.lst.injEq] at h2
          exact h2.2.2.2.2.2.1
        rw [e]; exact lw1'.mono (by omega) (Nat.le_refl _)
      · rw [f1 (fun q => z2 (.inl q)) (fun q => z2 (.inr q)), e0]; exact hws.mono (by omega) (Nat.le_refl _)
  obtain ⟨z, hj, oz⟩ := be_join lw (by omega)
  obtain ⟨L1, b6, l1, n1⟩ := be_line (o := o4) (mo := mo) (k := k) (pl := pl) (n := 0) (hL.mono (Nat.le_refl _) (by omega : 18 ≤ 18 * 39 + 39)) (by omega) oz hj a0 a1
  obtain ⟨L2, b7, l2, g2⟩ := be_2 (o := o4) (mo := mo) (ws := w1) (a := a) (k := k) (pl := pl) l1 (by omega)
  obtain ⟨L3, b8, l3, g3⟩ := be_3 (o := o4) (mo := mo) (ws := w1) (a := a) (k := k) (pl := pl) l2 (by omega)
  obtain ⟨L4, b9, l4, g4⟩ := be_4 (o := o4) (mo := mo) (ws := w1) (a := a) (k := k) (pl := pl) l3 (by omega) a0 (fun q => by rw [g3 (by omega), g2 (by omega)]; exact n1)
  have lL4 : LS 40 741 L4 := by
    by_cases z2 : k = 2
    · rw [g4 (by omega), g3 (by omega)]; exact l2.mono (by omega) (by omega)
    · by_cases z3 : k = 3
      · rw [g4 (by omega)]
        have e2 := g2 z2
        obtain ⟨L3', b8', l3', _⟩ := be_3 (o := o4) (mo := mo) (ws := w1) (a := a) (k := k) (pl := pl) l1 (by omega)
        rw [e2] at b8
        have := b8.symm.trans b8'
        have e : L3 = L3' := by
          injection this with _ h2
          simp only [E9, List.cons.injEq, Option.some.injEq, O.sh.injEq, D.lst.injEq] at h2
          exact h2.2.1
        rw [e]; exact l3'.mono (by omega) (by omega)
      · have e3 : L3 = L1 := (g3 z3).trans (g2 z2)
        obtain ⟨L4', b9', l4', _⟩ := be_4 (o := o4) (mo := mo) (ws := w1) (a := a) (k := k) (pl := pl) l1 (by omega) a0 (fun _ => n1)
        rw [e3] at b9
        have := b9.symm.trans b9'
        have e : L4 = L4' := by
          injection this with _ h2
          simp only [E9, List.cons.injEq, Option.some.injEq, O.sh.injEq, D.lst.injEq] at h2
          exact h2.2.1
        rw [e]; exact l4'.mono (by omega) (by omega)
  obtain ⟨L5, b10, l5⟩ := be_5 (o := o4) (mo := mo) (ws := w1) (a := a) (k := k) (pl := pl) lL4
  obtain ⟨s, b11, os⟩ := be_text (o := o4) (mo := mo) (ws := w1) (a := a) (k := k) (pl := pl) l5 (by omega) (by omega) (by omega)
  unfold b__law_mbent
  by_cases z6 : k = 6
  · obtain ⟨s', o5, pl', b12, os', t5⟩ := be_6 c t4 (by omega) (L := L5) (mo := mo) (ws := w1) (a := a) (k := k) (pl := pl) os (by omega) z6
    have hm : m__law_mbent (csUp (csUp c)) [some o, some (.sh (.lst L)), some (.sh (.lst mo)), none, none, none, none, none, none] = .ok (.rt (.sh (.str s'))) (E9 o5 L5 mo a k w1 pl' (some (.sh (.str s))) none) :=
      (seq_nx b1).trans ((seq_nx b2).trans ((seq_nx b3).trans ((seq_nx b4).trans ((seq_nx b5).trans ((seq_nx b6).trans ((seq_nx b7).trans ((seq_nx b8).trans ((seq_nx b9).trans ((seq_nx b10).trans ((seq_nx b11).trans (seq_rt b12)))))))))))
    exact ⟨s', o5, fn_rt (m := m__law_mbent (csUp (csUp c))) (os := [o, O.sh (.lst L), O.sh (.lst mo)]) (np := 3) (n := 9) (io := [0]) hm, os'.mono (by omega), t5.mono (by omega)⟩
  · have hk := kindE 4 (e := E9 o4 L5 mo a k w1 pl (some (.sh (.str s))) none) (k := k) (j := 6) rfl
    rw [beq_f z6] at hk
    obtain ⟨s', b13, os'⟩ := be_7 (o := o4) (L := L5) (mo := mo) (ws := w1) (a := a) (k := k) (pl := pl) os (by omega)
    have hm : m__law_mbent (csUp (csUp c)) [some o, some (.sh (.lst L)), some (.sh (.lst mo)), none, none, none, none, none, none] = .ok (.rt (.sh (.str s'))) (E9 o4 L5 mo a k w1 pl (some (.sh (.str s))) none) :=
      (seq_nx b1).trans ((seq_nx b2).trans ((seq_nx b3).trans ((seq_nx b4).trans ((seq_nx b5).trans ((seq_nx b6).trans ((seq_nx b7).trans ((seq_nx b8).trans ((seq_nx b9).trans ((seq_nx b10).trans ((seq_nx b11).trans ((seq_nx ((if_f (b := M.ret Fl.nx) hk).trans rfl)).trans b13)))))))))))
    exact ⟨s', o4, fn_rt (m := m__law_mbent (csUp (csUp c))) (os := [o, O.sh (.lst L), O.sh (.lst mo)]) (np := 3) (n := 9) (io := [0]) hm, os'.mono (by omega), t4.mono (by omega)⟩
end L80

set_option Elab.async false
set_option linter.all false
set_option maxRecDepth 100000
set_option maxHeartbeats 4000000
namespace L80
open PySem PySem.Spec PyProof.Rows L2 Ow
abbrev tu0 (c : Cs) : M Fl := mAsg (mComp [4] true (mRange1 (mBin addF (M.ret (.sh (.int 1))) (mCall (fun os => if os.length = 2 then c._law_below os else .no) (slotM 1 fun _ => mConsL 1 (mConsV (M.ret (.sh (.int 9))) (M.ret [])))))) (gSet 4 true) (M.ret true) (mCall (fun os => if os.length = 1 then c._law_mform os else .no) (slotM 1 fun _ => mConsL 1 (M.ret [])))) (gSet 3 true)
abbrev tu1 (c : Cs) : M Fl := mAsg (mComp [7] true (mWalk (mName 3)) (gSet 7 true) (M.ret true) (mStr1 joinF (M.ret (.sh (.str (" " : Str)))) (mComp [6] true (mWalk (mName 7)) (gSet 6 true) (M.ret true) (mCB (c1 strF) (mCons (mName 6) (M.ret [])))))) (gSet 5 true)
abbrev tu2 (c : Cs) : M Fl := mAsg (mCall (fun os => if os.length = 1 then c._law_mtext os else .no) (mConsV (mName 5) (M.ret []))) (gSet 8 true)
abbrev tu3 (c : Cs) : M Fl := mAsg (mLst (mCons (mWords 18 lamQ clas "told" (mCall (fun os => if os.length = 1 then c.deeds_text os else .no) (mConsV (mCall (fun os => if os.length = 2 then c._law_loose os else .no) (slotM 1 fun _ => mConsL 1 (mConsV (mName 3) (M.ret [])))) (M.ret [])))) (M.ret []))) (gSet 9 false)
abbrev tu4 (c : Cs) : M Fl := mExpr (mAppend 9 (mWords 18 lamQ clas "told" (mCall (fun os => if os.length = 1 then c.read_deeds os else .no) (mConsV (mName 8) (M.ret [])))))
abbrev tu5 (c : Cs) : M Fl := mIf (mOr (mNotB (mTru (mCallP (fun os => if os.length = 2 then c._law_same os else .no) (slotM 9 fun _ => mConsL 9 (mConsV (mLst (mCons (mTup (mCons (M.ret (.sh (.str ("told" : Str)))) (mCons (mName 8) (M.ret [])))) (mCons (mTup (mCons (M.ret (.sh (.str ("told" : Str)))) (mCons (mName 3) (M.ret [])))) (M.ret [])))) (M.ret [])))))) (mTst (mUn notNF (mCall (fun os => if os.length = 1 then c.deeds_fault os else .no) (mConsV (mName 8) (M.ret [])))))) (mRet (M.ret (.sh (.bl false)))) (M.ret .nx)
abbrev tu6 (c : Cs) : M Fl := mIf (mOr (mNotB (mTru (mCall (fun os => if os.length = 1 then c._law_apart os else .no) (mConsW (mLst (mCons (mTake 9 1 1) (M.ret []))) (M.ret []))))) (mNotB (mTru (mCall (fun os => if os.length = 2 then c._law_same os else .no) (mConsV (mCall (fun os => if os.length = 1 then c.read_deeds os else .no) (mConsV (mName 8) (M.ret []))) (mConsV (mName 3) (M.ret []))))))) (mRet (M.ret (.sh (.bl false)))) (M.ret .nx)
abbrev tb7_0 (c : Cs) : M Fl := mAsg (mCall (fun os => if os.length = 3 then c._law_mbent os else .no) (slotM 1 fun _ => mConsL 1 (mConsV (mName 5) (mConsV (mLst (mCons (M.ret (.sh (.str ("hear" : Str)))) (mCons (M.ret (.sh (.str ("tell" : Str)))) (mCons (M.ret (.sh (.str ("fresh" : Str)))) (mCons (M.ret (.sh (.str ("0" : Str)))) (mCons (M.ret (.sh (.str ("3" : Str)))) (mCons (M.ret (.sh (.str ("4" : Str)))) (mCons (M.ret (.sh (.str ("5" : Str)))) (mCons (M.ret (.sh (.str ("6" : Str)))) (mCons (M.ret (.sh (.str ("a" : Str)))) (mCons (M.ret (.sh (.str ("A" : Str)))) (mCons (M.ret (.sh (.str ("aa" : Str)))) (mCons (M.ret (.sh (.str ("" : Str)))) (mCons (M.ret (.sh (.str ("-1" : Str)))) (mCons (M.ret (.sh (.str ("01" : Str)))) (M.ret [])))))))))))))))) (M.ret []))))) (gSet 10 true)
abbrev tb7_1 (c : Cs) : M Fl := mAsg (mStr1 splitF (mName 10) (M.ret (.sh (.str ("\n" : Str))))) (gSet 11 true)
abbrev tb7_2 (c : Cs) : M Fl := mAsg (mComp [13, 14] true (mEn1 (mSl (mName 11) (M.ret none) (mPart (mUn mNeg (M.ret (.sh (.int 1))))))) (gTupF [(13, true), (14, true)]) (mTst (mUn isNF (mCall (fun os => if os.length = 1 then c._law_mread os else .no) (mConsV (mName 14) (M.ret []))))) (mBin addF (mName 13) (M.ret (.sh (.int 1))))) (gSet 12 true)
abbrev tb7_3 (c : Cs) : M Fl := mAsg (mBin ixF (mBin addF (mBin addF (mName 12) (mIf (mTst (mBin neF (mBin ixF (mName 11) (mUn mNeg (M.ret (.sh (.int 1))))) (M.ret (.sh (.str ("" : Str)))))) (mLst (mCons (mLenNm 11) (M.ret []))) (mLst (M.ret [])))) (mLst (mCons (M.ret (.sh .non)) (M.ret [])))) (M.ret (.sh (.int 0)))) (gSet 15 true)
abbrev tb7_4 (c : Cs) : M Fl := mIf (mNotB (mTru (mCall (fun os => if os.length = 2 then c._law_same os else .no) (mConsV (mCall (fun os => if os.length = 1 then c.deeds_fault os else .no) (mConsV (mName 10) (M.ret []))) (mConsV (mName 15) (M.ret [])))))) (mRet (M.ret (.sh (.bl false)))) (M.ret .nx)
abbrev tb7_5 (c : Cs) : M Fl := mAsg (mWords 18 lamQ clas "told" (mCall (fun os => if os.length = 1 then c.read_deeds os else .no) (mConsV (mName 10) (M.ret [])))) (gSet 9 false)
abbrev tb7_6 (c : Cs) : M Fl := mIf (mNotB (mTru (mCallP (fun os => if os.length = 2 then c._law_same os else .no) (slotM 9 fun _ => mConsL 9 (mConsV (mIf (mTst (mUn notNF (mName 15))) (mTup (mCons (M.ret (.sh (.str ("text" : Str)))) (mCons (mName 15) (M.ret [])))) (mTup (mCons (M.ret (.sh (.str ("told" : Str)))) (mCons (mComp [14] true (mWalk (mSl (mName 11) (M.ret none) (mPart (mUn mNeg (M.ret (.sh (.int 1))))))) (gSet 14 true) (M.ret true) (mCall (fun os => if os.length = 1 then c._law_mread os else .no) (mConsV (mName 14) (M.ret [])))) (M.ret []))))) (M.ret [])))))) (mRet (M.ret (.sh (.bl false)))) (M.ret .nx)
abbrev tb7 (c : Cs) : M Fl := mSeq (tb7_0 c) (mSeq (tb7_1 c) (mSeq (tb7_2 c) (mSeq (tb7_3 c) (mSeq (tb7_4 c) (mSeq (tb7_5 c) (tb7_6 c))))))
abbrev tu7 (c : Cs) : M Fl := M.bind (mRange1 (M.ret (.sh (.int 12)))) fun ds => mFor (gSet 4 true) (tb7 c) ds
abbrev tb8_0 (c : Cs) : M Fl := mAsg (mCall (fun os => if os.length = 2 then c._law_below os else .no) (slotM 1 fun _ => mConsL 1 (mConsV (mBin addF (mLenNm 3) (M.ret (.sh (.int 1)))) (M.ret [])))) (gSet 13 true)
abbrev tb8_1 (c : Cs) : M Fl := mIf (mNotB (mTru (mCall (fun os => if os.length = 2 then c._law_same os else .no) (mConsV (mWords 18 lamQ clas "told" (mCall (fun os => if os.length = 1 then c.deeds_text os else .no) (mConsV (mBin addF (mBin addF (mSl (mName 3) (M.ret none) (mPart (mName 13))) (mLst (mCons (mName 16) (M.ret [])))) (mSl (mName 3) (mPart (mName 13)) (M.ret none))) (M.ret [])))) (mConsV (mTup (mCons (M.ret (.sh (.str ("deed" : Str)))) (mCons (mName 13) (M.ret [])))) (M.ret [])))))) (mRet (M.ret (.sh (.bl false)))) (M.ret .nx)
abbrev tb8 (c : Cs) : M Fl := mSeq (tb8_0 c) (tb8_1 c)
abbrev tu8 (c : Cs) : M Fl := M.bind (mWalk (mLst (mCons (M.ret (.sh .non)) (mCons (M.ret (.sh (.int 5))) (mCons (mTup (mCons (M.ret (.sh (.str ("stop" : Str)))) (M.ret []))) (mCons (mTup (mCons (M.ret (.sh (.str ("tell" : Str)))) (M.ret []))) (mCons (mTup (mCons (M.ret (.sh (.str ("tell" : Str)))) (mCons (M.ret (.sh (.int 6))) (M.ret [])))) (mCons (mTup (mCons (M.ret (.sh (.str ("tell" : Str)))) (mCons (M.ret (.sh (.bl true))) (M.ret [])))) (mCons (mTup (mCons (M.ret (.sh (.str ("hear" : Str)))) (mCons (M.ret (.sh (.str ("a" : Str)))) (mCons (M.ret (.sh (.int 4))) (M.ret []))))) (mCons (mTup (mCons (M.ret (.sh (.str ("hear" : Str)))) (mCons (M.ret (.sh (.str ("ab" : Str)))) (mCons (M.ret (.sh (.int 0))) (M.ret []))))) (mCons (mTup (mCons (M.ret (.sh (.str ("hear" : Str)))) (mCons (M.ret (.sh (.str ("a" : Str)))) (M.ret [])))) (mCons (mTup (mCons (M.ret (.sh (.str ("fresh" : Str)))) (mCons (M.ret (.sh (.int 0))) (M.ret [])))) (mCons (mTup (mCons (M.ret (.sh (.str ("hear" : Str)))) (mCons (M.ret (.sh (.str ("a\n" : Str)))) (mCons (M.ret (.sh (.int 0))) (M.ret []))))) (M.ret [])))))))))))))) fun ds => mFor (gSet 16 true) (tb8 c) ds
abbrev tb9_0 (c : Cs) : M Fl := mAsg (mLst (mCons (mWords 18 lamQ clas "told" (mCall (fun os => if os.length = 1 then c.deeds_text os else .no) (mConsV (mName 16) (M.ret [])))) (M.ret []))) (gSet 17 false)
abbrev tb9_1 (c : Cs) : M Fl := mExpr (mAppend 17 (mWords 18 lamQ clas "told" (mCall (fun os => if os.length = 1 then c.read_deeds os else .no) (mConsV (mLst (mCons (mName 16) (M.ret []))) (M.ret [])))))
abbrev tb9_2 (c : Cs) : M Fl := mIf (mOr (mNotB (mTru (mCall (fun os => if os.length = 2 then c._law_same os else .no) (mConsV (mName 17) (mConsV (mLst (mCons (mTup (mCons (M.ret (.sh (.str ("deed" : Str)))) (mCons (M.ret (.sh (.int 0))) (M.ret [])))) (mCons (mTup (mCons (M.ret (.sh (.str ("text" : Str)))) (mCons (M.ret (.sh (.int 0))) (M.ret [])))) (M.ret [])))) (M.ret [])))))) (mNotB (mTru (mCall (fun os => if os.length = 2 then c._law_same os else .no) (mConsV (mCall (fun os => if os.length = 1 then c.deeds_fault os else .no) (mConsV (mLst (mCons (mName 16) (M.ret []))) (M.ret []))) (mConsV (M.ret (.sh (.int 0))) (M.ret []))))))) (mRet (M.ret (.sh (.bl false)))) (M.ret .nx)
abbrev tb9 (c : Cs) : M Fl := mSeq (tb9_0 c) (mSeq (tb9_1 c) (tb9_2 c))
abbrev tu9 (c : Cs) : M Fl := M.bind (mWalk (mLst (mCons (M.ret (.sh .non)) (mCons (M.ret (.sh (.int 5))) (mCons (M.ret (.sh (.str ("ab" : Str)))) (mCons (M.ret (.sh (.dct [] []))) (M.ret []))))))) fun ds => mFor (gSet 16 true) (tb9 c) ds
abbrev tu (c : Cs) : M Fl := mSeq (tu0 c) (mSeq (tu1 c) (mSeq (tu2 c) (mSeq (tu3 c) (mSeq (tu4 c) (mSeq (tu5 c) (mSeq (tu6 c) (mSeq (tu7 c) (mSeq (tu8 c) (tu9 c)))))))))
abbrev la0 (c : Cs) : M Fl := M.bind (mRange1 (M.ret (.sh (.int 4)))) fun ds => mFor (gSet 2 true) (tu c) ds
abbrev la1 (c : Cs) : M Fl := mAsg (mLst (mCons (mWords 18 lamQ clas "told" (mCall (fun os => if os.length = 1 then c.deeds_text os else .no) (mConsV (mLst (M.ret [])) (M.ret [])))) (M.ret []))) (gSet 17 false)
abbrev la2 (c : Cs) : M Fl := mExpr (mAppend 17 (mWords 18 lamQ clas "told" (mCall (fun os => if os.length = 1 then c.read_deeds os else .no) (mConsV (M.ret (.sh (.str ("" : Str)))) (M.ret [])))))
abbrev la3 (c : Cs) : M Fl := mRet (mCall (fun os => if os.length = 2 then c._law_same os else .no) (mConsV (mName 17) (mConsV (mLst (mCons (mTup (mCons (M.ret (.sh (.str ("told" : Str)))) (mCons (M.ret (.sh (.str ("" : Str)))) (M.ret [])))) (mCons (mTup (mCons (M.ret (.sh (.str ("told" : Str)))) (mCons (mLst (M.ret [])) (M.ret [])))) (M.ret [])))) (M.ret []))))
abbrev la (c : Cs) : M Fl := mSeq (la0 c) (mSeq (la1 c) (mSeq (la2 c) (la3 c)))
theorem la_eq (c : Cs) : m_law c = la c := rfl
end L80

set_option Elab.async false
set_option linter.all false
set_option maxRecDepth 100000
set_option maxHeartbeats 4000000
namespace L80
open PySem PySem.Spec PyProof.Rows L2 Ow
abbrev EL (o : O) (x2 x3 x4 x5 x6 x7 x8 x9 x10 x11 x12 x13 x14 x15 x16 x17 : Option O) : Sl := [none, some o, x2, x3, x4, x5, x6, x7, x8, x9, x10, x11, x12, x13, x14, x15, x16, x17, some (.tab lamQ)]
abbrev toldS : Str := "told"
theorem words_ok {m : M O} {e e1 : Sl} {o : O} (h18 : e[18]? = some (some (.tab lamQ))) (h : m e = .ok o e1) : mWords 18 lamQ clas "told" m e = .ok (.tup [.sh (.str toldS), o]) e1 := by
  unfold mWords slotM
  rw [h18]
  show (if lamQ = lamQ then (fun e => wordR clas "told" (m e)) else M.no) e = _
  rw [if_pos rfl]
  show wordR clas "told" (m e) = _
  rw [h]; rfl
theorem words_exc {m : M O} {e e1 : Sl} {cl f w : Str} {d : D} (h18 : e[18]? = some (some (.tab lamQ))) (h : m e = .exc cl [(f, d)] e1) (hc : clas.find? (fun z => z.1 == cl) = some (cl, f, w)) : mWords 18 lamQ clas "told" m e = .ok (.sh (.tup [.str w, d])) e1 := by
  unfold mWords slotM
  rw [h18]
  show (if lamQ = lamQ then (fun e => wordR clas "told" (m e)) else M.no) e = _
  rw [if_pos rfl]
  show wordR clas "told" (m e) = _
  rw [h]
  unfold wordR
  simp only [hc, if_true]
theorem fT : clas.find? (fun z => z.1 == ("BadText" : Str)) = some (("BadText", "line", "text") : Cl3) := by decide +kernel
theorem fD : clas.find? (fun z => z.1 == ("BadDeed" : Str)) = some (("BadDeed", "index", "deed") : Cl3) := by decide +kernel
theorem callP {g : Fn} {i : Nat} {m : M O} {e e1 es : Sl} {x o9 o90 : O} {b : Bool} (h0 : e[i]? = some (some o90)) (h : m e = .ok x e1) (h1 : e1[i]? = some (some o9)) (hg : g [.sh o9.er, .sh x.er] = .ok (.sh (.bl b)) es) :
    mCallP (fun os => if os.length = 2 then g os else .no) (slotM i fun _ => mConsL i (mConsV m (M.ret []))) e = .ok (.sh (.bl b)) e1 := by
  unfold mCallP
  have hh : (slotM i fun _ => mConsL i (mConsV m (M.ret []))) e = .ok [.l i, .v x] e1 := by
    unfold slotM
    rw [h0]
    show (mConsL i (mConsV m (M.ret []))) e = _
    unfold mConsL mConsV
    rw [bind_ok (show (m.bind fun o => (M.ret []).bind fun as => M.ret (A1.v o :: as)) e = .ok [.v x] e1 by rw [bind_ok h]; rfl)]
    rfl
  rw [bind_ok hh]
  unfold mCallPK peekA peekA peekA
  simp only [h1, Option.map_some, List.map_cons, List.map_nil, List.length_cons, List.length_nil, if_true, hg]
  rfl
theorem append_ok {i : Nat} {me : M O} {e e1 : Sl} {o : O} {os os0 : List O} (h0 : e[i]? = some (some (.lst os0))) (h : me e = .ok o e1) (h1 : e1[i]? = some (some (.lst os))) (hl : os.length < 1000000) : mAppend i me e = .ok (.sh .non) (e1.set i (some (.lst (os ++ [o])))) := by
  unfold mAppend slotM
  rw [h0]
  show (M.bind (ofG (some os0)) fun _ => _) e = _
  rw [bind_ok (show (ofG (some os0) : M (List O)) e = .ok os0 e from rfl), bind_ok h]
  show (match e1[i]? with | some (some o) => _ | _ => _) = _
  rw [h1]
  show (M.bind (ofG (some os)) fun _ => _) e1 = _
  rw [bind_ok (show (ofG (some os) : M (List O)) e1 = .ok os e1 from rfl), if_pos (by rw [sizeLine_v]; omega)]
theorem callW1 {g : Fn} {m : M O} {e e1 : Sl} {o r : O} (h : m e = .ok o e1) (hg : g [o] = .ok r [none]) : mCall (fun os => if os.length = 1 then g os else .no) (mConsW m (M.ret [])) e = .ok r e1 := by
  unfold mCall
  have h1 : mConsW m (M.ret []) e = .ok [.w o] e1 := by unfold mConsW; rw [bind_ok h]; rfl
  rw [bind_ok h1]
  unfold mCallK takeA takeA
  simp only [Option.map_some, List.length_cons, List.length_nil, if_true, hg]
  rfl
theorem range1_ok {ma : M O} {e e1 : Sl} {o : O} {k : Nat} (h : ma e = .ok o e1) (ho : o.er = .int (k : Int)) (hk : k ≤ 1000000) : mRange1 ma e = .ok ((List.range k).map fun i : Nat => D.int (0 + (i : Int))) e1 := by
  unfold mRange1
  rw [bind_ok h, ho]
  rw [show (D.int (k : Int)).asI = some (k : Int) from rfl, Option.bind_some]
  unfold rangeD
  have e2 : ((k : Int) - 0).toNat = k := by omega
  rw [if_pos ⟨by omega, by omega, by omega, by omega, by rw [e2, sizeLine_v]; omega⟩, e2]
  rfl
theorem All2.good {xs ys : List D} {P : D → Prop} : All2 (fun _ y => P y) xs ys → ∀ y ∈ ys, P y := by
  induction xs generalizing ys with
  | nil => cases ys with
    | nil => exact fun _ y hy => nomatch hy
    | cons y ys => exact fun h => h.elim
  | cons x xs ih => cases ys with
    | nil => exact fun h => h.elim
    | cons y ys =>
      intro h z hz
      rcases List.mem_cons.mp hz with rfl | hz
      · exact h.1
      · exact ih h.2 z hz
abbrev up2 (c : Cs) : Cs := csUp (csUp c)
abbrev up3 (c : Cs) : Cs := csUp (csUp (csUp c))
abbrev up5 (c : Cs) : Cs := csUp (up4 c)
theorem below2 {c : Cs} {i : Nat} {m : M O} {e e1 : Sl} {N : Int} {o ol0 : O} {x : O} (hs : Stm N o) (hN : N ≤ 1000000) {many : Int} (h1 : 1 ≤ many) (h2 : many < 1073741824) (h0 : e[i]? = some (some ol0)) (h : m e = .ok x e1) (hx : x.er = .int many) (hi : e1[i]? = some (some o)) :
    ∃ r o', mCall (fun os => if os.length = 2 then (csUp c)._law_below os else .no) (slotM i fun _ => mConsL i (mConsV m (M.ret []))) e = .ok (.sh (.int r)) (e1.set i (some o')) ∧ 0 ≤ r ∧ r < many ∧ Stm (N + 1) o' := by
  obtain ⟨r, o', p, r0, r1, t⟩ := below_ok c hs hN h1 h2
  exact ⟨r, o', callL h0 h hi (by rw [hx]; exact p), r0, r1, t⟩
/-- the notes -/
theorem tu_0 (c : Cs) {N : Int} {o : O} (hs : Stm N o) (hN : N + 40 ≤ 1000000) (x2 x3 x4 x5 x6 x7 x8 x9 x10 x11 x12 x13 x14 x15 x16 x17 : Option O) :
    ∃ ds o', tu0 (up3 c) (EL o x2 x3 x4 x5 x6 x7 x8 x9 x10 x11 x12 x13 x14 x15 x16 x17) = .ok .nx (EL o' x2 (some (.sh (.lst ds))) x4 x5 x6 x7 x8 x9 x10 x11 x12 x13 x14 x15 x16 x17) ∧ (∀ d ∈ ds, Good d) ∧ 1 ≤ ds.length ∧ ds.length ≤ 9 ∧ Stm (N + 37) o' := by
  obtain ⟨r, o1, p1, r0, r1, t1⟩ := below2 (c := up2 c) (i := 1) (m := M.ret (.sh (.int 9))) (e := EL o x2 x3 x4 x5 x6 x7 x8 x9 x10 x11 x12 x13 x14 x15 x16 x17) hs (by omega) (many := 9) (by omega) (by omega) rfl nil_ok rfl rfl
  obtain ⟨k, hk⟩ : ∃ k : Nat, 1 + r = k := ⟨(1 + r).toNat, by omega⟩
  have hr := range1_ok (ma := mBin addF (M.ret (.sh (.int 1))) (mCall (fun os => if os.length = 2 then (up3 c)._law_below os else .no) (slotM 1 fun _ => mConsL 1 (mConsV (M.ret (.sh (.int 9))) (M.ret []))))) (k := k) (bin_ok nil_ok p1 (o := .sh (.int (1 + r))) rfl) (by show D.int (1 + r) = _; rw [hk]) (by omega)
  obtain ⟨ds, o', g1, g2, g3⟩ := compS (vs := [4]) (f := gSet 4 true) (me := mCall (fun os => if os.length = 1 then (up3 c)._law_mform os else .no) (slotM 1 fun _ => mConsL 1 (M.ret []))) (fun o => EL o x2 x3 none x5 x6 x7 x8 x9 x10 x11 x12 x13 x14 x15 x16 x17) (fun _ y => Good y) 4 1000000 (by omega) (ds := (List.range k).map fun i : Nat => D.int (0 + (i : Int))) (e := EL o1 x2 x3 x4 x5 x6 x7 x8 x9 x10 x11 x12 x13 x14 x15 x16 x17) t1 (by rw [List.length_map, List.length_range]; omega) rfl rfl fun d hd N o hN hB => by
    obtain ⟨y, o', q1, q2, q3⟩ := mform_ok c hN hB
    have q : (up3 c)._law_mform [o] = _ := q1
    exact ⟨EL o x2 x3 (some (.sh d)) x5 x6 x7 x8 x9 x10 x11 x12 x13 x14 x15 x16 x17, .sh y, EL o' x2 x3 (some (.sh d)) x5 x6 x7 x8 x9 x10 x11 x12 x13 x14 x15 x16 x17, o', rfl, callL1 (ol := o) rfl q, rfl, q2, q3⟩
  have hl := g2.len
  rw [List.length_map, List.length_range] at hl
  refine ⟨ds, o', (asgL (comp_ok hr g1) (by show 3 < 19; omega)).trans rfl, g2.good, by omega, by omega, g3.mono ?_⟩
  rw [List.length_map, List.length_range]
  omega
/-- the lines -/
theorem tu_1 (c : Cs) {o : O} {ds : List D} (hg : ∀ d ∈ ds, Good d) (x2 x4 x5 x6 x7 x8 x9 x10 x11 x12 x13 x14 x15 x16 x17 : Option O) :
    tu1 c (EL o x2 (some (.sh (.lst ds))) x4 x5 x6 x7 x8 x9 x10 x11 x12 x13 x14 x15 x16 x17) = .ok .nx (EL o x2 (some (.sh (.lst ds))) x4 (some (.sh (.lst ((linesOf ds).map D.str)))) x6 x7 x8 x9 x10 x11 x12 x13 x14 x15 x16 x17) := by
  have hk : mCompK [7] true (gSet 7 true) (M.ret true) (mStr1 joinF (M.ret (.sh (.str (" " : Str)))) (mComp [6] true (mWalk (mName 7)) (gSet 6 true) (M.ret true) (mCB (c1 strF) (mCons (mName 6) (M.ret []))))) ds (EL o x2 (some (.sh (.lst ds))) x4 x5 x6 x7 x8 x9 x10 x11 x12 x13 x14 x15 x16 x17) = .ok (.lst (ds.map fun d => .sh (.str (lineOf (rowOf d))))) (EL o x2 (some (.sh (.lst ds))) x4 x5 x6 x7 x8 x9 x10 x11 x12 x13 x14 x15 x16 x17) := by
    refine compK1 (e0 := EL o x2 (some (.sh (.lst ds))) x4 x5 x6 none x8 x9 x10 x11 x12 x13 x14 x15 x16 x17) (fun d => .str (lineOf (rowOf d))) rfl rfl rfl fun d hd => ?_
    obtain ⟨xs, rfl, hp⟩ := hg d hd
    have hk2 : mCompK [6] true (gSet 6 true) (M.ret true) (mCB (c1 strF) (mCons (mName 6) (M.ret []))) xs (EL o x2 (some (.sh (.lst ds))) x4 x5 x6 (some (.sh (.tup xs))) x8 x9 x10 x11 x12 x13 x14 x15 x16 x17) = .ok (.lst (xs.map fun x => .sh (.str (strOf x)))) (EL o x2 (some (.sh (.lst ds))) x4 x5 x6 (some (.sh (.tup xs))) x8 x9 x10 x11 x12 x13 x14 x15 x16 x17) := by
      refine compK1 (e0 := EL o x2 (some (.sh (.lst ds))) x4 x5 none (some (.sh (.tup xs))) x8 x9 x10 x11 x12 x13 x14 x15 x16 x17) (fun x => .str (strOf x)) rfl rfl rfl fun x hx => ?_
      have hx' := strF_all hp x hx
      exact ⟨_, .sh (.str (strOf x)), EL o x2 (some (.sh (.lst ds))) x4 x5 (some (.sh x)) (some (.sh (.tup xs))) x8 x9 x10 x11 x12 x13 x14 x15 x16 x17, rfl, cb_ok (os := [.sh x]) (cons_ok rfl (nil_ok (a := ([] : List O)))) hx', rfl, rfl⟩
    have he : (O.lst (xs.map fun x => O.sh (.str (strOf x)))).er = .lst ((xs.map strOf).map D.str) := by
      show D.lst (O.ers _) = _
      rw [O.ers_map, List.map_map, List.map_map]; rfl
    have hw := words_sum hp
    have hj : joinF (" " : Str) (.lst ((xs.map strOf).map D.str)) = some (.sh (.str (lineOf xs))) := joinF_lst (by omega)
    exact ⟨EL o x2 (some (.sh (.lst ds))) x4 x5 x6 (some (.sh (.tup xs))) x8 x9 x10 x11 x12 x13 x14 x15 x16 x17, .sh (.str (lineOf xs)), EL o x2 (some (.sh (.lst ds))) x4 x5 x6 (some (.sh (.tup xs))) x8 x9 x10 x11 x12 x13 x14 x15 x16 x17, rfl, str1_ok (s := (" " : Str)) nil_ok rfl (comp_ok (walk_ok (x := .sh (.tup xs)) rfl rfl) hk2) (by rw [he]; exact hj), rfl, rfl⟩
  have hz : (ds.map fun d => O.sh (.str (lineOf (rowOf d)))) = ((linesOf ds).map D.str).map O.sh := by
    unfold linesOf
    rw [List.map_map, List.map_map]; rfl
  rw [hz] at hk
  exact (asgL (comp_ok (walk_ok (x := .sh (.lst ds)) rfl rfl) hk) (by show 5 < 19; omega)).trans rfl
/-- the text -/
theorem tu_2 (c : Cs) {o : O} {ds : List D} (hg : ∀ d ∈ ds, Good d) (hl : ds.length ≤ 9) (x2 x3 x4 x6 x7 x8 x9 x10 x11 x12 x13 x14 x15 x16 x17 : Option O) :
    tu2 (csUp c) (EL o x2 x3 x4 (some (.sh (.lst ((linesOf ds).map D.str)))) x6 x7 x8 x9 x10 x11 x12 x13 x14 x15 x16 x17) = .ok .nx (EL o x2 x3 x4 (some (.sh (.lst ((linesOf ds).map D.str)))) x6 x7 (some (.sh (.str (mtext (linesOf ds))))) x9 x10 x11 x12 x13 x14 x15 x16 x17) ∧ Ok 171 (mtext (linesOf ds)) := by
  have hll : (linesOf ds).length = ds.length := by unfold linesOf; rw [List.length_map]
  obtain ⟨p1, p2⟩ := mtext_ok c (n := 18) (zs := linesOf ds) (fun z hz => (lines_good hg z hz).1) (by omega) (by omega)
  have p3 : (csUp c)._law_mtext [.sh (.lst ((linesOf ds).map D.str))] = _ := p1
  refine ⟨asg_ok (call1 (o := .sh (.lst ((linesOf ds).map D.str))) rfl p3) rfl, p2.mono ?_⟩
  rw [hll]
  omega
end L80

set_option Elab.async false
set_option linter.all false
set_option maxRecDepth 100000
set_option maxHeartbeats 4000000
namespace L80
open PySem PySem.Spec PyProof.Rows L2 Ow
theorem good_pd {d : D} (h : Good d) : pdB (rowOf d) = true := by
  obtain ⟨xs, rfl, hp⟩ := h
  exact hp
theorem all2_lines : ∀ {ds ys : List D}, All2 (fun x y => rowOf y = rowOf x ∧ y.ty ≠ none) ds ys → linesOf ys = linesOf ds
  | [], [], _ => rfl
  | x :: xs, y :: ys, h => by
    have := all2_lines h.2
    unfold linesOf at this ⊢
    rw [List.map_cons, List.map_cons, this, h.1.1]
  | [], y :: ys, h => h.elim
  | x :: xs, [], h => h.elim
theorem all2_odd : ∀ {ds ys : List D}, (∀ d ∈ ds, Good d) → All2 (fun x y => rowOf y = rowOf x ∧ y.ty ≠ none) ds ys → ∀ y ∈ ys, Odd 5 y ∧ pdB (rowOf y) = true
  | [], [], _, _, y, hy => nomatch hy
  | x :: xs, y :: ys, hg, h, z, hz => by
    rcases List.mem_cons.mp hz with rfl | hz
    · have hp := good_pd (hg x List.mem_cons_self)
      rw [← h.1.1] at hp
      exact ⟨⟨h.1.2, pd_flat hp⟩, hp⟩
    · exact all2_odd (fun d hd => hg d (List.mem_cons_of_mem _ hd)) h.2 z hz
  | [], y :: ys, _, h, _, _ => h.elim
  | x :: xs, [], _, h, _, _ => h.elim
theorem dt_loose (c : Cs) {ds ys : List D} {d' : D} (hg : ∀ d ∈ ds, Good d) (hl : ds.length ≤ 9) (hd : d' = .lst ys ∨ d' = .tup ys) (h : All2 (fun x y => rowOf y = rowOf x ∧ y.ty ≠ none) ds ys) : b_deeds_text (up2 c) [.sh d'] = .ok (.sh (.str (mtext (linesOf ds)))) [none] := by
  have h2 := all2_odd hg h
  rw [deeds_text_ok c (n := 5) (by omega) d' ys hd (fun x hx => (h2 x hx).1) (by have := h.len; omega), dtR_good fun d hd => (h2 d hd).2, all2_lines h]
theorem callx1 {g : Fn} {m : M O} {e e1 : Sl} {o : O} {cl : Str} {fs : List (Str × D)} (h : m e = .ok o e1) (hg : g [.sh o.er] = .exc cl fs [none]) : mCall (fun os => if os.length = 1 then g os else .no) (mConsV m (M.ret [])) e = .exc cl fs e1 := call1x h hg
abbrev toldT (s : Str) : O := .tup [.sh (.str toldS), .sh (.str s)]
abbrev toldL (ds : List D) : O := .tup [.sh (.str toldS), .lst (ds.map O.sh)]
theorem tu_3 (c : Cs) {N : Int} {o : O} (hs : Stm N o) (hN : N + 40 ≤ 1000000) {ds : List D} (hg : ∀ d ∈ ds, Good d) (hl : ds.length ≤ 9) (x2 x4 x5 x6 x7 x8 x9 x10 x11 x12 x13 x14 x15 x16 x17 : Option O) :
    ∃ o', tu3 (up3 c) (EL o x2 (some (.sh (.lst ds))) x4 x5 x6 x7 x8 x9 x10 x11 x12 x13 x14 x15 x16 x17) = .ok .nx (EL o' x2 (some (.sh (.lst ds))) x4 x5 x6 x7 x8 (some (.lst [toldT (mtext (linesOf ds))])) x10 x11 x12 x13 x14 x15 x16 x17) ∧ Stm (N + 10) o' := by
  obtain ⟨d', ys, o', h1, h2, h3, h4⟩ := loose_deeds c hs hg (by omega)
  have q1 : (up3 c)._law_loose [o, .sh (.lst ds)] = _ := h1
  have q2 : (up3 c).deeds_text [.sh d'] = _ := dt_loose c hg hl h2 h3
  have p1 := callL (g := (up3 c)._law_loose) (i := 1) (m := mName 3) (e := EL o x2 (some (.sh (.lst ds))) x4 x5 x6 x7 x8 x9 x10 x11 x12 x13 x14 x15 x16 x17) (e1 := EL o x2 (some (.sh (.lst ds))) x4 x5 x6 x7 x8 x9 x10 x11 x12 x13 x14 x15 x16 x17) (o := .sh (.lst ds)) (ol := o) rfl rfl rfl q1
  refine ⟨o', (asg_ok (lst_ok (os := [toldT (mtext (linesOf ds))]) (cons_ok (words_ok rfl (call1 p1 q2)) nil_ok) (by show 1 ≤ sizeLine; decide)) rfl), h4.mono (by omega)⟩
theorem read_good (c : Cs) {ds : List D} (hg : ∀ d ∈ ds, Good d) (hk : Ok 171 (mtext (linesOf ds))) : b_read_deeds (up4 c) [.sh (.str (mtext (linesOf ds)))] = R.ok (.lst (ds.map O.sh)) [none] := by
  rw [read_ok c (n := 171) hk (by omega), lrO_good hg]
  rfl
theorem tu_4 (c : Cs) {o : O} {ds : List D} (hg : ∀ d ∈ ds, Good d) (hk : Ok 171 (mtext (linesOf ds))) (x2 x3 x4 x5 x6 x7 x10 x11 x12 x13 x14 x15 x16 x17 : Option O) :
    tu4 (up5 c) (EL o x2 x3 x4 x5 x6 x7 (some (.sh (.str (mtext (linesOf ds))))) (some (.lst [toldT (mtext (linesOf ds))])) x10 x11 x12 x13 x14 x15 x16 x17) = .ok .nx (EL o x2 x3 x4 x5 x6 x7 (some (.sh (.str (mtext (linesOf ds))))) (some (.lst [toldT (mtext (linesOf ds)), toldL ds])) x10 x11 x12 x13 x14 x15 x16 x17) := by
  have q : (up5 c).read_deeds [.sh (.str (mtext (linesOf ds)))] = _ := read_good c hg hk
  generalize hE : EL o x2 x3 x4 x5 x6 x7 (some (.sh (.str (mtext (linesOf ds))))) (some (.lst [toldT (mtext (linesOf ds))])) x10 x11 x12 x13 x14 x15 x16 x17 = E
  have h8 : mName 8 E = .ok (.sh (.str (mtext (linesOf ds)))) E := by rw [← hE]; rfl
  have h9 : E[9]? = some (some (.lst [toldT (mtext (linesOf ds))])) := by rw [← hE]; rfl
  have h18 : E[18]? = some (some (.tab lamQ)) := by rw [← hE]; rfl
  have p := exp_ok (append_ok (i := 9) h9 (words_ok h18 (call1 h8 q)) h9 (by simp))
  refine p.trans ?_
  rw [← hE]; rfl
theorem nest_str {n k : Nat} {s : Str} (h : Ok n s) : Nest n k (.str s) := flat_nest h
theorem told_len : toldS.length = 4 := by decide +kernel
theorem told_flat {n k : Nat} (hn : 4 ≤ n) : Nest n k (.str toldS) := flat_nest ((okS toldS (by decide +kernel)).mono (by rw [told_len]; exact hn))
theorem flat_mono {m n : Nat} {d : D} (h : Flat m d) (hm : m ≤ n) : Flat n d := by
  cases d <;> first | exact h.elim | trivial | exact Ok.mono h hm
theorem nest_mono {m n : Nat} (hm : m ≤ n) : ∀ {k : Nat} {d : D}, Nest m k d → Nest n k d
  | 0, d, h => flat_mono h hm
  | k + 1, d, h => by
    rcases h with h | ⟨xs, hd, h⟩
    · exact .inl (flat_mono h hm)
    · exact .inr ⟨xs, hd, fun x hx => nest_mono hm (h x hx)⟩
theorem nest_lst {n k : Nat} {xs : List D} (h : ∀ x ∈ xs, Nest n k x) : Nest n (k + 1) (.lst xs) := .inr ⟨xs, .inl rfl, h⟩
theorem nest_tup {n k : Nat} {xs : List D} (h : ∀ x ∈ xs, Nest n k x) : Nest n (k + 1) (.tup xs) := .inr ⟨xs, .inr rfl, h⟩
theorem nest_two {n k : Nat} {x y : D} (h : Nest n k x) (h2 : Nest n k y) : ∀ z ∈ [x, y], Nest n k z := fun z hz => by
  rcases List.mem_cons.mp hz with rfl | hz
  · exact h
  · rw [List.mem_singleton.mp hz]; exact h2
theorem nest_up {n : Nat} : ∀ {k : Nat} {d : D}, Nest n k d → Nest n (k + 1) d
  | 0, d, h => .inl h
  | k + 1, d, h => by
    rcases h with h | ⟨xs, hd, h⟩
    · exact .inl h
    · exact .inr ⟨xs, hd, fun x hx => nest_up (h x hx)⟩
theorem nest_deeds {n : Nat} {ds : List D} (hn : 5 ≤ n) (hg : ∀ d ∈ ds, Good d) : Nest n 2 (.lst ds) := nest_lst fun x hx => nest_mono hn (good_nest (hg x hx))
theorem nest_told {n : Nat} {ds : List D} {s : Str} (hn : 5 ≤ n) (hk : Ok n s) (hg : ∀ d ∈ ds, Good d) : Nest n 4 (.lst [.tup [.str toldS, .str s], .tup [.str toldS, .lst ds]]) :=
  nest_lst (nest_two (nest_tup (nest_two (told_flat (by omega)) (nest_str hk))) (nest_tup (nest_two (told_flat (by omega)) (nest_deeds hn hg))))
theorem toldL_er (ds : List D) : (toldL ds).er = .tup [.str toldS, .lst ds] := by
  show D.tup [_, (O.lst (ds.map O.sh)).er] = _
  rw [lstSh_er]; rfl
theorem told2_er (ds : List D) (s : Str) : (O.lst [toldT s, toldL ds]).er = .lst [.tup [.str toldS, .str s], .tup [.str toldS, .lst ds]] := by
  show D.lst [(toldT s).er, (toldL ds).er] = _
  rw [toldL_er]; rfl
theorem notNF_non : notNF .non = some (.sh (.bl false)) := rfl
theorem tu_5 (c : Cs) {o : O} {ds : List D} (hg : ∀ d ∈ ds, Good d) (hk : Ok 171 (mtext (linesOf ds))) (x2 x4 x5 x6 x7 x10 x11 x12 x13 x14 x15 x16 x17 : Option O) :
    tu5 (up5 c) (EL o x2 (some (.sh (.lst ds))) x4 x5 x6 x7 (some (.sh (.str (mtext (linesOf ds))))) (some (.lst [toldT (mtext (linesOf ds)), toldL ds])) x10 x11 x12 x13 x14 x15 x16 x17) = .ok .nx (EL o x2 (some (.sh (.lst ds))) x4 x5 x6 x7 (some (.sh (.str (mtext (linesOf ds))))) (some (.lst [toldT (mtext (linesOf ds)), toldL ds])) x10 x11 x12 x13 x14 x15 x16 x17) := by
  generalize hE : EL o x2 (some (.sh (.lst ds))) x4 x5 x6 x7 (some (.sh (.str (mtext (linesOf ds))))) (some (.lst [toldT (mtext (linesOf ds)), toldL ds])) x10 x11 x12 x13 x14 x15 x16 x17 = E
  have q1 : (up5 c)._law_same [.sh (.lst [.tup [.str toldS, .str (mtext (linesOf ds))], .tup [.str toldS, .lst ds]]), .sh (.lst [.tup [.str toldS, .str (mtext (linesOf ds))], .tup [.str toldS, .lst ds]])] = .ok (.sh (.bl true)) [none, none] := same_ok c 4 _ (nest_told (n := 171) (by omega) hk hg)
  have q2 : (up5 c).deeds_fault [.sh (.str (mtext (linesOf ds)))] = .ok (.sh (lrO (mtext (linesOf ds))).2) [none] := fault_ok c (n := 171) hk (by omega)
  rw [lrO_good hg] at q2
  have h8 : mName 8 E = .ok (.sh (.str (mtext (linesOf ds)))) E := by rw [← hE]; rfl
  have h3 : mName 3 E = .ok (.sh (.lst ds)) E := by rw [← hE]; rfl
  have h9 : E[9]? = some (some (.lst [toldT (mtext (linesOf ds)), toldL ds])) := by rw [← hE]; rfl
  have l2 : (2 : Nat) ≤ sizeLine := by decide
  have p1 := callP (g := (up5 c)._law_same) (i := 9) (m := mLst (mCons (mTup (mCons (M.ret (.sh (.str ("told" : Str)))) (mCons (mName 8) (M.ret [])))) (mCons (mTup (mCons (M.ret (.sh (.str ("told" : Str)))) (mCons (mName 3) (M.ret [])))) (M.ret [])))) (e := E) h9 (lst_ok (os := [toldT (mtext (linesOf ds)), .tup [.sh (.str toldS), .sh (.lst ds)]]) (cons_ok (tup_ok (cons_ok nil_ok (cons_ok h8 nil_ok)) l2) (cons_ok (tup_ok (cons_ok nil_ok (cons_ok h3 nil_ok)) l2) nil_ok)) l2) h9 (by rw [told2_er]; exact q1)
  have p2 := call1 h8 q2
  exact (if_f ((or_f (notB_ok (tru_ok p1 rfl))).trans (tst_ok (un_ok p2 notNF_non) rfl))).trans rfl
theorem take_ok {i c1 c2 : Nat} {e : Sl} {o z : O} (h : e[i]? = some (some o)) (hp : o.part2 c1 c2 = some z) : mTake i c1 c2 e = .ok z (e.set i none) := by
  unfold mTake slotM
  simp only [h, hp]
theorem tu_6 (c : Cs) {o : O} {ds : List D} (hg : ∀ d ∈ ds, Good d) (hl : ds.length ≤ 9) (hk : Ok 171 (mtext (linesOf ds))) (x2 x4 x5 x6 x7 x10 x11 x12 x13 x14 x15 x16 x17 : Option O) :
    tu6 (up5 c) (EL o x2 (some (.sh (.lst ds))) x4 x5 x6 x7 (some (.sh (.str (mtext (linesOf ds))))) (some (.lst [toldT (mtext (linesOf ds)), toldL ds])) x10 x11 x12 x13 x14 x15 x16 x17) = .ok .nx (EL o x2 (some (.sh (.lst ds))) x4 x5 x6 x7 (some (.sh (.str (mtext (linesOf ds))))) none x10 x11 x12 x13 x14 x15 x16 x17) := by
  have q1 : (up5 c)._law_apart [.lst [.lst (ds.map O.sh)]] = .ok (.sh (.bl true)) [none] := apart_ok c hg (by omega)
  have q2 : (up5 c).read_deeds [.sh (.str (mtext (linesOf ds)))] = _ := read_good c hg hk
  have q3 : (up5 c)._law_same [.sh (.lst ds), .sh (.lst ds)] = .ok (.sh (.bl true)) [none, none] := same_ok (csUp (csUp c)) 2 _ (nest_deeds (n := 171) (by omega) hg)
  have ht : mTake 9 1 1 (EL o x2 (some (.sh (.lst ds))) x4 x5 x6 x7 (some (.sh (.str (mtext (linesOf ds))))) (some (.lst [toldT (mtext (linesOf ds)), toldL ds])) x10 x11 x12 x13 x14 x15 x16 x17) = .ok (.lst (ds.map O.sh)) (EL o x2 (some (.sh (.lst ds))) x4 x5 x6 x7 (some (.sh (.str (mtext (linesOf ds))))) none x10 x11 x12 x13 x14 x15 x16 x17) := take_ok (o := .lst [toldT (mtext (linesOf ds)), toldL ds]) rfl rfl
  generalize hE : EL o x2 (some (.sh (.lst ds))) x4 x5 x6 x7 (some (.sh (.str (mtext (linesOf ds))))) none x10 x11 x12 x13 x14 x15 x16 x17 = E at ht ⊢
  have h8 : mName 8 E = .ok (.sh (.str (mtext (linesOf ds)))) E := by rw [← hE]; rfl
  have h3 : mName 3 E = .ok (.sh (.lst ds)) E := by rw [← hE]; rfl
  have l1 : (1 : Nat) ≤ sizeLine := by decide
  have p1 := callW1 (lst_ok (os := [.lst (ds.map O.sh)]) (cons_ok ht nil_ok) l1) q1
  have p2 := call1 h8 q2
  have p3 := callV2 (g := (up5 c)._law_same) p2 h3 (by rw [lstSh_er]; exact q3)
  exact (if_f ((or_f (notB_ok (tru_ok p1 rfl))).trans (notB_ok (tru_ok p3 rfl)))).trans rfl
end L80

set_option Elab.async false
set_option linter.all false
set_option maxRecDepth 100000
set_option maxHeartbeats 4000000
namespace L80
open PySem PySem.Spec PyProof.Rows L2 Ow
/-! ### the first bad line -/
def wr : Int → List Str → List D
  | _, [] => []
  | k, l :: ls => match lineD l with
    | .tup _ => wr (k + 1) ls
    | _ => .int (k + 1) :: wr (k + 1) ls
theorem scan_wr0 : ∀ (ls : List Str) (k : Int) (acc : List D), wr k ls = [] → scan (k + 1) ls acc = (acc ++ ls.map lineD, none)
  | [], k, acc, _ => by simp [scan]
  | l :: ls, k, acc, h => by
    unfold wr at h
    unfold scan
    rcases lineD_cases l with e | ⟨xs, e⟩
    · rw [e] at h; cases h
    · rw [e] at h ⊢
      simp only at h ⊢
      rw [scan_wr0 ls (k + 1) _ h, List.map_cons, e]
      simp
theorem scan_wr1 : ∀ (ls : List Str) (k : Int) (acc : List D) (d : D) (r : List D), wr k ls = d :: r → ∃ j, d = .int j ∧ (scan (k + 1) ls acc).2 = some j
  | [], k, acc, d, r, h => by cases h
  | l :: ls, k, acc, d, r, h => by
    unfold wr at h
    unfold scan
    rcases lineD_cases l with e | ⟨xs, e⟩
    · rw [e] at h ⊢
      simp only at h ⊢
      cases h
      exact ⟨k + 1, rfl, rfl⟩
    · rw [e] at h ⊢
      simp only at h ⊢
      exact scan_wr1 ls (k + 1) _ d r h
def pBad (d : D) : Bool := match d with
  | .tup [_, .str l] => isNon (lineD l)
  | _ => false
def gAt (d : D) : D := match d with
  | .tup [.int i, _] => .int (i + 1)
  | d => d
theorem wr_filter : ∀ (ls : List Str) (k : Int), ((enD k (ls.map D.str)).filter pBad).map gAt = wr k ls
  | [], k => rfl
  | l :: ls, k => by
    rw [List.map_cons, enD_cons]
    unfold wr
    rcases lineD_cases l with e | ⟨xs, e⟩
    · have hp : pBad (.tup [.int k, .str l]) = true := by show isNon (lineD l) = true; rw [e]; rfl
      rw [List.filter_cons_of_pos hp, List.map_cons, wr_filter ls, e]
      rfl
    · have hp : ¬ pBad (.tup [.int k, .str l]) = true := by show ¬ isNon (lineD l) = true; rw [e]; exact Bool.false_ne_true
      rw [List.filter_cons_of_neg hp, wr_filter ls, e]
/-- what the law says is due -/
def dueD (text : Str) : D := match wr 0 (parts 10 text).dropLast with
  | d :: _ => d
  | [] => if (parts 10 text).getLast? = some ("" : Str) then .non else .int (parts 10 text).length
theorem due_eq (text : Str) : (lrO text).2 = dueD text := by
  unfold lrO dueD
  cases h : wr 0 (parts 10 text).dropLast with
  | nil =>
    have := scan_wr0 _ 0 [] h
    rw [show (1 : Int) = 0 + 1 from rfl, this]
  | cons d r =>
    obtain ⟨j, rfl, hj⟩ := scan_wr1 _ 0 [] d r h
    rw [show (1 : Int) = 0 + 1 from rfl]
    cases hs : scan (0 + 1) (parts 10 text).dropLast [] with
    | mk a b =>
      rw [hs] at hj
      cases hj
      rfl
theorem due_non {text : Str} (h : (lrO text).2 = .non) : (lrO text).1 = (parts 10 text).dropLast.map lineD := by
  have h2 := due_eq text
  rw [h] at h2
  unfold dueD at h2
  cases hw : wr 0 (parts 10 text).dropLast with
  | cons d r =>
    obtain ⟨j, rfl, hj⟩ := scan_wr1 _ 0 [] d r hw
    rw [hw] at h2
    cases h2
  | nil =>
    have := scan_wr0 _ 0 [] hw
    unfold lrO
    rw [show (1 : Int) = 0 + 1 from rfl, this]
    simp
/-! ### the bent text -/
theorem asgS {m : M O} {e e1 : Sl} {o : O} {i : Nat} (h : m e = .ok o e1) (hi : i < e1.length) : mAsg m (gSet i true) e = .ok .nx (e1.set i (some (.sh o.er))) := by
  refine asg_ok h ?_
  unfold gSet
  rw [if_pos hi]
  rfl
theorem slLast {ma : M O} {e e1 : Sl} {ws : List Str} (h : ma e = .ok (.sh (.lst (ws.map D.str))) e1) : mSl ma (M.ret none) (mPart (mUn mNeg (M.ret (.sh (.int 1))))) e = .ok (.lst ((ws.dropLast.map D.str).map O.sh)) e1 := by
  have := slF_last ws
  unfold mSl
  rw [bind_ok h, bind_ok (noneP e1), bind_ok (show mPart (mUn mNeg (M.ret (.sh (.int 1)))) e1 = .ok (some (-1)) e1 from part_ok (un_ok nil_ok rfl) rfl)]
  show ofOpt (slF (.lst (ws.map D.str)) none (some (-1))) e1 = _
  rw [this]; rfl
abbrev moS : List Str := ["hear", "tell", "fresh", "0", "3", "4", "5", "6", "a", "A", "aa", "", "-1", "01"]
theorem mo_ok : LS 20 18 (moS.map D.str) := (LS.map (n := 18) fun z hz => by
  have : moS.all (fun s => decide (s.length ≤ 18) && (tl s).all fun c => decide (c < 128)) = true := by decide +kernel
  have h := List.all_eq_true.mp this z hz
  rw [Bool.and_eq_true] at h
  exact ⟨of_decide_eq_true h.1, fun c hc => of_decide_eq_true (List.all_eq_true.mp h.2 c hc)⟩).mono (by decide) (Nat.le_refl _)
theorem lines_ls {ds : List D} (hg : ∀ d ∈ ds, Good d) (hl : ds.length ≤ 9) : LS 9 18 ((linesOf ds).map D.str) := (LS.map (n := 18) fun z hz => (lines_good hg z hz).1).mono (by unfold linesOf; rw [List.length_map]; exact hl) (Nat.le_refl _)
theorem tb_0 (c : Cs) {N : Int} {o : O} (hs : Stm N o) (hN : N + 10 ≤ 1000000) {ds : List D} (hg : ∀ d ∈ ds, Good d) (hl : ds.length ≤ 9) (h1 : 1 ≤ ds.length) (x2 x3 x4 x6 x7 x8 x9 x10 x11 x12 x13 x14 x15 x16 x17 : Option O) :
    ∃ s o', tb7_0 (up3 c) (EL o x2 x3 x4 (some (.sh (.lst ((linesOf ds).map D.str)))) x6 x7 x8 x9 x10 x11 x12 x13 x14 x15 x16 x17) = .ok .nx (EL o' x2 x3 x4 (some (.sh (.lst ((linesOf ds).map D.str)))) x6 x7 x8 x9 (some (.sh (.str s))) x11 x12 x13 x14 x15 x16 x17) ∧ Ok 100000 s ∧ Stm (N + 10) o' := by
  have hll : (linesOf ds).length = ds.length := by unfold linesOf; rw [List.length_map]
  obtain ⟨s, o', q, k1, k2⟩ := mbent_ok c hs hN (lines_ls hg hl) (fun z => by have e := congrArg List.length z; rw [List.length_map, hll] at e; have e2 : ds.length = 0 := e; omega) mo_ok (by decide)
  have q' : (up3 c)._law_mbent [o, .sh (.lst ((linesOf ds).map D.str)), .sh (.lst (moS.map D.str))] = _ := q
  refine ⟨s, o', ?_, k1, k2⟩
  generalize hE : EL o x2 x3 x4 (some (.sh (.lst ((linesOf ds).map D.str)))) x6 x7 x8 x9 x10 x11 x12 x13 x14 x15 x16 x17 = E
  have h1' : E[1]? = some (some o) := by rw [← hE]; rfl
  have h5 : mName 5 E = .ok (.sh (.lst ((linesOf ds).map D.str))) E := by rw [← hE]; rfl
  have p := callL3 (g := (up3 c)._law_mbent) (i := 1) h1' h5 (lst_ok (os := moS.map fun s => O.sh (.str s)) (show (mCons (M.ret (.sh (.str ("hear" : Str)))) (mCons (M.ret (.sh (.str ("tell" : Str)))) (mCons (M.ret (.sh (.str ("fresh" : Str)))) (mCons (M.ret (.sh (.str ("0" : Str)))) (mCons (M.ret (.sh (.str ("3" : Str)))) (mCons (M.ret (.sh (.str ("4" : Str)))) (mCons (M.ret (.sh (.str ("5" : Str)))) (mCons (M.ret (.sh (.str ("6" : Str)))) (mCons (M.ret (.sh (.str ("a" : Str)))) (mCons (M.ret (.sh (.str ("A" : Str)))) (mCons (M.ret (.sh (.str ("aa" : Str)))) (mCons (M.ret (.sh (.str ("" : Str)))) (mCons (M.ret (.sh (.str ("-1" : Str)))) (mCons (M.ret (.sh (.str ("01" : Str)))) (M.ret []))))))))))))))) E = .ok (moS.map fun s => O.sh (.str s)) E from rfl) (by show 14 ≤ sizeLine; decide)) h1' q'
  have hl : E.length = 19 := by rw [← hE]; rfl
  refine (asgS p (by rw [List.length_set, hl]; decide)).trans ?_
  rw [← hE]; rfl
theorem tb_1 (c : Cs) {o : O} {s : Str} (hk : Ok 100000 s) (x2 x3 x4 x5 x6 x7 x8 x9 x11 x12 x13 x14 x15 x16 x17 : Option O) :
    tb7_1 c (EL o x2 x3 x4 x5 x6 x7 x8 x9 (some (.sh (.str s))) x11 x12 x13 x14 x15 x16 x17) = .ok .nx (EL o x2 x3 x4 x5 x6 x7 x8 x9 (some (.sh (.str s))) (some (.sh (.lst ((parts 10 s).map D.str)))) x12 x13 x14 x15 x16 x17) := by
  have hs : splitF s (.str ("\n" : Str)) = _ := splitF_ok' (c := 10) (by decide) nlS hk (by omega)
  have hz : (O.lst ((parts 10 s).map fun z => O.sh (.str z))) = .lst (((parts 10 s).map D.str).map O.sh) := by rw [List.map_map]; rfl
  rw [hz] at hs
  generalize hE : EL o x2 x3 x4 x5 x6 x7 x8 x9 (some (.sh (.str s))) x11 x12 x13 x14 x15 x16 x17 = E
  have h10 : mName 10 E = .ok (.sh (.str s)) E := by rw [← hE]; rfl
  have hl : E.length = 19 := by rw [← hE]; rfl
  refine (asgL (str1_ok (s := s) h10 rfl nil_ok hs) (by rw [hl]; decide)).trans ?_
  rw [← hE]; rfl
theorem tb_2 (c : Cs) {o : O} {s : Str} (hk : Ok 100000 s) (x2 x3 x4 x5 x6 x7 x8 x9 x10 x12 x13 x14 x15 x16 x17 : Option O) :
    tb7_2 (csUp c) (EL o x2 x3 x4 x5 x6 x7 x8 x9 x10 (some (.sh (.lst ((parts 10 s).map D.str)))) x12 x13 x14 x15 x16 x17) = .ok .nx (EL o x2 x3 x4 x5 x6 x7 x8 x9 x10 (some (.sh (.lst ((parts 10 s).map D.str)))) (some (.sh (.lst (wr 0 (parts 10 s).dropLast)))) x13 x14 x15 x16 x17) := by
  have hok := parts_ok (c := 10) hk
  generalize hE : EL o x2 x3 x4 x5 x6 x7 x8 x9 x10 (some (.sh (.lst ((parts 10 s).map D.str)))) x12 x13 x14 x15 x16 x17 = E
  have hl : E.length = 19 := by rw [← hE]; rfl
  have h11 : mName 11 E = .ok (.sh (.lst ((parts 10 s).map D.str))) E := by rw [← hE]; rfl
  have he : mEn1 (mSl (mName 11) (M.ret none) (mPart (mUn mNeg (M.ret (.sh (.int 1)))))) E = .ok (enD 0 ((parts 10 s).dropLast.map D.str)) E := by
    unfold mEn1
    rw [bind_ok (slLast h11), lstSh_er]
    rfl
  have hk2 := compK (vs := [13, 14]) (f := gTupF [(13, true), (14, true)]) (mt := mTst (mUn isNF (mCall (fun os => if os.length = 1 then (csUp c)._law_mread os else .no) (mConsV (mName 14) (M.ret []))))) (me := mBin addF (mName 13) (M.ret (.sh (.int 1)))) (ds := enD 0 ((parts 10 s).dropLast.map D.str)) (e := E) (e0 := EL o x2 x3 x4 x5 x6 x7 x8 x9 x10 (some (.sh (.lst ((parts 10 s).map D.str)))) x12 none none x15 x16 x17) pBad gAt (by rw [← hE]; rfl) (by rw [← hE]; rfl) (by rw [hl]; rfl) fun d hd => by
    obtain ⟨i, hi⟩ := List.getElem?_of_mem hd
    obtain ⟨x, hx, rfl⟩ := enD_get hi
    rw [List.getElem?_map] at hx
    obtain ⟨l, hl, rfl⟩ := Option.map_eq_some_iff.mp hx
    have hl' : l ∈ parts 10 s := List.dropLast_subset _ (List.mem_of_getElem? hl)
    have q : (csUp c)._law_mread [.sh (.str l)] = _ := mread_ok c (hok.2 l hl') (by omega)
    generalize hE1 : EL o x2 x3 x4 x5 x6 x7 x8 x9 x10 (some (.sh (.lst ((parts 10 s).map D.str)))) x12 (some (.sh (.int (0 + (i : Int))))) (some (.sh (.str l))) x15 x16 x17 = E1
    have h14 : mName 14 E1 = .ok (.sh (.str l)) E1 := by rw [← hE1]; rfl
    have h13 : mName 13 E1 = .ok (.sh (.int (0 + (i : Int)))) E1 := by rw [← hE1]; rfl
    refine ⟨E1, E1, by rw [← hE1]; rfl, ?_, fun _ => by rw [← hE1]; rfl, fun _ => ⟨.sh (.int (0 + (i : Int) + 1)), E1, bin_ok h13 nil_ok rfl, by rw [← hE1]; rfl, rfl⟩⟩
    refine tst_ok (un_ok (o := .sh (.bl (isNon (lineD l)))) (call1 h14 q) ?_) rfl
    rw [lineO_er]
    rcases lineD_cases l with e | ⟨xs, e⟩ <;> rw [e] <;> rfl
  have hz : ((enD 0 ((parts 10 s).dropLast.map D.str)).filter pBad).map (fun d => O.sh (gAt d)) = (wr 0 (parts 10 s).dropLast).map O.sh := by
    rw [← wr_filter, List.map_map]; rfl
  rw [hz] at hk2
  refine (asgL (comp_ok he hk2) (by rw [hl]; decide)).trans ?_
  rw [← hE]; rfl
theorem neF_str {n m : Nat} {s t : Str} (h : Ok n s) (h2 : Ok m t) : neF (.str s) (.str t) = some (.sh (.bl (!(s == t)))) := by
  show (if (D.str s).eqb && (D.str t).eqb then some (O.sh (.bl (!PyData.eqv (D.str s).py (D.str t).py))) else none) = _
  rw [h.eqb, h2.eqb, eqv_str]; rfl
theorem tb_3 (c : Cs) {o : O} {s : Str} (hk : Ok 100000 s) (x2 x3 x4 x5 x6 x7 x8 x9 x10 x13 x14 x15 x16 x17 : Option O) :
    tb7_3 c (EL o x2 x3 x4 x5 x6 x7 x8 x9 x10 (some (.sh (.lst ((parts 10 s).map D.str)))) (some (.sh (.lst (wr 0 (parts 10 s).dropLast)))) x13 x14 x15 x16 x17) = .ok .nx (EL o x2 x3 x4 x5 x6 x7 x8 x9 x10 (some (.sh (.lst ((parts 10 s).map D.str)))) (some (.sh (.lst (wr 0 (parts 10 s).dropLast)))) x13 x14 (some (.sh (dueD s))) x16 x17) := by
  have hok := parts_ok (c := 10) hk
  have hne := parts_ne 10 s
  have hwl : (wr 0 (parts 10 s).dropLast).length ≤ 100001 := by
    have := congrArg List.length (wr_filter (parts 10 s).dropLast 0)
    rw [List.length_map] at this
    rw [← this]
    refine Nat.le_trans (List.length_filter_le _ _) ?_
    rw [enD_len, List.length_map, List.length_dropLast]
    have := hok.1
    omega
  obtain ⟨w, hw⟩ : ∃ w, (parts 10 s).getLast? = some w := by
    cases q : (parts 10 s).getLast? with
    | none => exact absurd (List.getLast?_eq_none_iff.mp q) hne
    | some w => exact ⟨w, rfl⟩
  have ow : Ok 100000 w := hok.2 w (List.mem_of_getLast? hw)
  have hx := ix_last hw
  have l1 : (1 : Nat) ≤ sizeLine := by decide
  have l0 : (0 : Nat) ≤ sizeLine := by decide
  unfold dueD
  rw [hw]
  generalize hW : wr 0 (parts 10 s).dropLast = W at *
  generalize hE : EL o x2 x3 x4 x5 x6 x7 x8 x9 x10 (some (.sh (.lst ((parts 10 s).map D.str)))) (some (.sh (.lst W))) x13 x14 x15 x16 x17 = E
  have h11 : mName 11 E = .ok (.sh (.lst ((parts 10 s).map D.str))) E := by rw [← hE]; rfl
  have h12 : mName 12 E = .ok (.sh (.lst W)) E := by rw [← hE]; rfl
  have hlen : mLenNm 11 E = .ok (.sh (.int (parts 10 s).length)) E := by
    rw [← hE]
    show ofOpt (some (O.sh (.int ((((parts 10 s).map D.str).length : Nat) : Int)))) _ = _
    rw [List.length_map]; rfl
  have ht : mTst (mBin neF (mBin ixF (mName 11) (mUn mNeg (M.ret (.sh (.int 1))))) (M.ret (.sh (.str ("" : Str))))) E = .ok (!(w == ("" : Str))) E :=
    tst_ok (bin_ok (bin_ok h11 (un_ok nil_ok rfl) hx) nil_ok (neF_str ow (okS ("" : Str) (by decide +kernel)))) rfl
  -- the middle list
  obtain ⟨Xs, hX, hX2, hX3⟩ : ∃ Xs : List D, mIf (mTst (mBin neF (mBin ixF (mName 11) (mUn mNeg (M.ret (.sh (.int 1))))) (M.ret (.sh (.str ("" : Str)))))) (mLst (mCons (mLenNm 11) (M.ret []))) (mLst (M.ret [])) E = .ok (.lst (Xs.map O.sh)) E ∧ Xs.length ≤ 1 ∧ (Xs ++ [D.non])[0]? = some (if some w = some ("" : Str) then D.non else .int (parts 10 s).length) := by
    by_cases q : w = ("" : Str)
    · have hb : (!(w == ("" : Str))) = false := by rw [q]; rfl
      rw [hb] at ht
      exact ⟨[], (if_f ht).trans (lst_ok nil_ok l0), by simp, by rw [if_pos (by rw [q])]; rfl⟩
    · have hb : (!(w == ("" : Str))) = true := by rw [beq_eq_false_iff_ne.mpr q]; rfl
      rw [hb] at ht
      exact ⟨[.int (parts 10 s).length], (if_t ht).trans (lst_ok (os := [.sh (.int (parts 10 s).length)]) (cons_ok hlen nil_ok) l1), by simp, by rw [if_neg (fun z => q (Option.some.inj z))]; rfl⟩
  have ha := addLs (bin_ok h12 hX (o := .lst ((W ++ Xs).map O.sh)) (by rw [lstSh_er]; exact addL (by omega))) (lst_ok (os := ([D.non].map O.sh)) (cons_ok nil_ok nil_ok) l1) (by rw [List.length_append]; simp; omega)
  have h0 : (W ++ Xs ++ [D.non])[0]? = some (match W with | d :: _ => d | [] => if some w = some ("" : Str) then D.non else .int (parts 10 s).length) := by
    cases W with
    | nil => exact hX3
    | cons d r => rfl
  have hb := bin_ok (f := ixF) ha (nil_ok (a := O.sh (.int 0)) (e := E)) (by rw [lstSh_er]; exact ixL (i := 0) h0)
  have hl : E.length = 19 := by rw [← hE]; rfl
  refine (asgS hb (by rw [hl]; decide)).trans ?_
  rw [← hE]; rfl
end L80

set_option Elab.async false
set_option linter.all false
set_option maxRecDepth 100000
set_option maxHeartbeats 4000000
namespace L80
open PySem PySem.Spec PyProof.Rows L2 Ow
theorem due_flat {s : Str} : Flat 5 (dueD s) := by
  rw [← due_eq]
  rcases lrO_snd s with h | ⟨i, h⟩ <;> rw [h] <;> trivial
theorem tb_4 (c : Cs) {o : O} {s : Str} (hk : Ok 100000 s) (x2 x3 x4 x5 x6 x7 x8 x9 x11 x12 x13 x14 x16 x17 : Option O) :
    tb7_4 (up5 c) (EL o x2 x3 x4 x5 x6 x7 x8 x9 (some (.sh (.str s))) x11 x12 x13 x14 (some (.sh (dueD s))) x16 x17) = .ok .nx (EL o x2 x3 x4 x5 x6 x7 x8 x9 (some (.sh (.str s))) x11 x12 x13 x14 (some (.sh (dueD s))) x16 x17) := by
  have q2 : (up5 c).deeds_fault [.sh (.str s)] = .ok (.sh (lrO s).2) [none] := fault_ok c hk (by omega)
  rw [due_eq] at q2
  have q1 : (up5 c)._law_same [.sh (dueD s), .sh (dueD s)] = .ok (.sh (.bl true)) [none, none] := same_flat (up4 c) (n := 5) due_flat
  generalize hE : EL o x2 x3 x4 x5 x6 x7 x8 x9 (some (.sh (.str s))) x11 x12 x13 x14 (some (.sh (dueD s))) x16 x17 = E
  have h10 : mName 10 E = .ok (.sh (.str s)) E := by rw [← hE]; rfl
  have h15 : mName 15 E = .ok (.sh (dueD s)) E := by rw [← hE]; rfl
  exact (if_f (notB_ok (tru_ok (callV2 (g := (up5 c)._law_same) (call1 h10 q2) h15 q1) rfl))).trans rfl
/-- what the law is told of the bent text -/
def toldO (s : Str) : O := if isNon (dueD s) then toldL ((parts 10 s).dropLast.map lineD) else .sh (.tup [.str ("text" : Str), dueD s])
theorem isNon_eq {d : D} (h : isNon d = true) : d = .non := by cases d <;> first | rfl | cases h
theorem gSet_own {o : O} {e : Sl} {i : Nat} (hi : i < e.length) : gSet i false o e = some (e.set i (some o)) := by
  unfold gSet
  rw [if_pos hi]
  rfl
theorem tb_5 (c : Cs) {o : O} {s : Str} (hk : Ok 100000 s) (x2 x3 x4 x5 x6 x7 x8 x9 x11 x12 x13 x14 x15 x16 x17 : Option O) :
    tb7_5 (up5 c) (EL o x2 x3 x4 x5 x6 x7 x8 x9 (some (.sh (.str s))) x11 x12 x13 x14 x15 x16 x17) = .ok .nx (EL o x2 x3 x4 x5 x6 x7 x8 (some (toldO s)) (some (.sh (.str s))) x11 x12 x13 x14 x15 x16 x17) := by
  have q : (up5 c).read_deeds [.sh (.str s)] = if isNon (lrO s).2 then R.ok (.lst ((lrO s).1.map O.sh)) [none] else R.exc "BadText" [("line", (lrO s).2)] [none] := read_ok c hk (by omega)
  rw [due_eq] at q
  generalize hE : EL o x2 x3 x4 x5 x6 x7 x8 x9 (some (.sh (.str s))) x11 x12 x13 x14 x15 x16 x17 = E
  have h10 : mName 10 E = .ok (.sh (.str s)) E := by rw [← hE]; rfl
  have h18 : E[18]? = some (some (.tab lamQ)) := by rw [← hE]; rfl
  have hl : E.length = 19 := by rw [← hE]; rfl
  have key : mWords 18 lamQ clas "told" (mCall (fun os => if os.length = 1 then (up5 c).read_deeds os else .no) (mConsV (mName 10) (M.ret []))) E = .ok (toldO s) E := by
    unfold toldO
    cases hd : isNon (dueD s) with
    | true =>
      rw [hd, if_pos rfl] at q
      have h2 : (lrO s).2 = .non := by rw [due_eq]; exact isNon_eq hd
      rw [due_non h2] at q
      rw [if_pos rfl]
      exact words_ok h18 (call1 h10 q)
    | false =>
      rw [hd, if_neg Bool.false_ne_true] at q
      rw [if_neg Bool.false_ne_true]
      exact words_exc h18 (call1x h10 q) fT
  refine (asg_ok key (gSet_own (by rw [hl]; decide))).trans ?_
  rw [← hE]; rfl
theorem notNF_of {d : D} (h : d = .non ∨ ∃ i, d = .int i) : notNF d = some (.sh (.bl (!isNon d))) := by
  rcases h with rfl | ⟨i, rfl⟩ <;> rfl
theorem text_flat {n : Nat} (hn : 4 ≤ n) : Flat n (.str ("text" : Str)) := (okS ("text" : Str) (by decide +kernel)).mono (by have : ("text" : Str).length = 4 := by decide +kernel
                                                                                                                             rw [this]; exact hn)
theorem line_nest {n : Nat} {l : Str} (hk : Ok n l) : Nest n 1 (lineD l) := by
  rcases lineD_cases l with e | ⟨xs, e⟩
  · rw [e]; exact .inl trivial
  · unfold lineD pd at e ⊢
    split
    · exact nest_tup fun x hx => by
        obtain ⟨w, hw, rfl⟩ := List.mem_map.mp (show x ∈ (parts 32 l).map conv from hx)
        exact conv_flat ((parts_ok hk).2 w hw)
    · exact .inl trivial
theorem tb_6 (c : Cs) {o : O} {s : Str} (hk : Ok 100000 s) (x2 x3 x4 x5 x6 x7 x8 x10 x12 x13 x14 x16 x17 : Option O) :
    tb7_6 (up5 c) (EL o x2 x3 x4 x5 x6 x7 x8 (some (toldO s)) x10 (some (.sh (.lst ((parts 10 s).map D.str)))) x12 x13 x14 (some (.sh (dueD s))) x16 x17) = .ok .nx (EL o x2 x3 x4 x5 x6 x7 x8 (some (toldO s)) x10 (some (.sh (.lst ((parts 10 s).map D.str)))) x12 x13 x14 (some (.sh (dueD s))) x16 x17) := by
  have hok := parts_ok (c := 10) hk
  have hdn : dueD s = .non ∨ ∃ i, dueD s = .int i := by rw [← due_eq]; exact lrO_snd s
  have l2 : (2 : Nat) ≤ sizeLine := by decide
  generalize hE : EL o x2 x3 x4 x5 x6 x7 x8 (some (toldO s)) x10 (some (.sh (.lst ((parts 10 s).map D.str)))) x12 x13 x14 (some (.sh (dueD s))) x16 x17 = E
  have h9 : E[9]? = some (some (toldO s)) := by rw [← hE]; rfl
  have h15 : mName 15 E = .ok (.sh (dueD s)) E := by rw [← hE]; rfl
  have h11 : mName 11 E = .ok (.sh (.lst ((parts 10 s).map D.str))) E := by rw [← hE]; rfl
  have hl : E.length = 19 := by rw [← hE]; rfl
  have ht : mTst (mUn notNF (mName 15)) E = .ok (!isNon (dueD s)) E := tst_ok (un_ok h15 (notNF_of hdn)) rfl
  have key : ∃ z, mIf (mTst (mUn notNF (mName 15))) (mTup (mCons (M.ret (.sh (.str ("text" : Str)))) (mCons (mName 15) (M.ret [])))) (mTup (mCons (M.ret (.sh (.str ("told" : Str)))) (mCons (mComp [14] true (mWalk (mSl (mName 11) (M.ret none) (mPart (mUn mNeg (M.ret (.sh (.int 1))))))) (gSet 14 true) (M.ret true) (mCall (fun os => if os.length = 1 then (up5 c)._law_mread os else .no) (mConsV (mName 14) (M.ret [])))) (M.ret [])))) E = .ok z E ∧ (up5 c)._law_same [.sh (toldO s).er, .sh z.er] = .ok (.sh (.bl true)) [none, none] := by
    cases hd : isNon (dueD s) with
    | false =>
      rw [hd] at ht
      refine ⟨_, (if_t ht).trans (tup_ok (os := [.sh (.str ("text" : Str)), .sh (dueD s)]) (cons_ok nil_ok (cons_ok h15 nil_ok)) l2), ?_⟩
      have e : (toldO s).er = .tup [.str ("text" : Str), dueD s] := by unfold toldO; rw [hd]; rfl
      rw [e]
      exact same_ok (up3 c) 1 (.tup [.str ("text" : Str), dueD s]) (nest_tup (n := 5) (k := 0) (nest_two (text_flat (by omega)) due_flat))
    | true =>
      rw [hd] at ht
      have hk2 := compK1 (vs := [14]) (f := gSet 14 true) (me := mCall (fun os => if os.length = 1 then (up5 c)._law_mread os else .no) (mConsV (mName 14) (M.ret []))) (ds := (parts 10 s).dropLast.map D.str) (e := E) (e0 := EL o x2 x3 x4 x5 x6 x7 x8 (some (toldO s)) x10 (some (.sh (.lst ((parts 10 s).map D.str)))) x12 x13 none (some (.sh (dueD s))) x16 x17) (fun d => match d with | .str l => lineD l | d => d) (by rw [← hE]; rfl) (by rw [← hE]; rfl) (by rw [hl]; rfl) fun d hd => by
        obtain ⟨l, hl, rfl⟩ := List.mem_map.mp hd
        have q : (up5 c)._law_mread [.sh (.str l)] = _ := mread_ok (up4 c) (hok.2 l (List.dropLast_subset _ hl)) (by omega)
        generalize hE1 : EL o x2 x3 x4 x5 x6 x7 x8 (some (toldO s)) x10 (some (.sh (.lst ((parts 10 s).map D.str)))) x12 x13 (some (.sh (.str l))) (some (.sh (dueD s))) x16 x17 = E1
        have h14 : mName 14 E1 = .ok (.sh (.str l)) E1 := by rw [← hE1]; rfl
        exact ⟨E1, lineO l, E1, by rw [← hE1]; rfl, call1 h14 q, by rw [← hE1]; rfl, lineO_er l⟩
      have hz : ((parts 10 s).dropLast.map D.str).map (fun d => O.sh (match d with | .str l => lineD l | d => d)) = ((parts 10 s).dropLast.map lineD).map O.sh := by rw [List.map_map, List.map_map]; rfl
      rw [hz] at hk2
      have hwalk : mWalk (mSl (mName 11) (M.ret none) (mPart (mUn mNeg (M.ret (.sh (.int 1)))))) E = .ok ((parts 10 s).dropLast.map D.str) E := walk_ok (slLast h11) (by rw [lstSh_er]; rfl)
      refine ⟨_, (if_f ht).trans (tup_ok (os := [.sh (.str toldS), .lst (((parts 10 s).dropLast.map lineD).map O.sh)]) (cons_ok nil_ok (cons_ok (comp_ok hwalk hk2) nil_ok)) l2), ?_⟩
      have e : (toldO s).er = .tup [.str toldS, .lst ((parts 10 s).dropLast.map lineD)] := by unfold toldO; rw [hd, if_pos rfl, toldL_er]
      have e2 : (O.tup [.sh (.str toldS), .lst (((parts 10 s).dropLast.map lineD).map O.sh)]).er = .tup [.str toldS, .lst ((parts 10 s).dropLast.map lineD)] := toldL_er _
      rw [e, e2]
      refine same_ok (csUp c) 3 _ (nest_tup (n := 100000) (nest_two (told_flat (by omega)) (nest_lst fun x hx => ?_)))
      obtain ⟨l, hl, rfl⟩ := List.mem_map.mp hx
      exact line_nest (hok.2 l (List.dropLast_subset _ hl))
  obtain ⟨z, k1, k2⟩ := key
  exact (if_f (notB_ok (tru_ok (callP (g := (up5 c)._law_same) (i := 9) h9 k1 h9 k2) rfl))).trans rfl
/-- one bent text -/
theorem tb7_ok (c : Cs) {N : Int} {o : O} (hs : Stm N o) (hN : N + 10 ≤ 1000000) {ds : List D} (hg : ∀ d ∈ ds, Good d) (hl : ds.length ≤ 9) (h1 : 1 ≤ ds.length) (x2 x3 x4 x6 x7 x8 x9 x10 x11 x12 x13 x14 x15 x16 x17 : Option O) :
    ∃ o' y9 y10 y11 y12 y13 y14 y15, tb7 (up5 c) (EL o x2 x3 x4 (some (.sh (.lst ((linesOf ds).map D.str)))) x6 x7 x8 x9 x10 x11 x12 x13 x14 x15 x16 x17) = .ok .nx (EL o' x2 x3 x4 (some (.sh (.lst ((linesOf ds).map D.str)))) x6 x7 x8 y9 y10 y11 y12 y13 y14 y15 x16 x17) ∧ Stm (N + 10) o' := by
  obtain ⟨s, o', p0, hk, t⟩ := tb_0 (up2 c) hs hN hg hl h1 x2 x3 x4 x6 x7 x8 x9 x10 x11 x12 x13 x14 x15 x16 x17
  have p1 := tb_1 (up5 c) (o := o') hk x2 x3 x4 (some (.sh (.lst ((linesOf ds).map D.str)))) x6 x7 x8 x9 x11 x12 x13 x14 x15 x16 x17
  have p2 := tb_2 (up4 c) (o := o') hk x2 x3 x4 (some (.sh (.lst ((linesOf ds).map D.str)))) x6 x7 x8 x9 (some (.sh (.str s))) x12 x13 x14 x15 x16 x17
  have p3 := tb_3 (up5 c) (o := o') hk x2 x3 x4 (some (.sh (.lst ((linesOf ds).map D.str)))) x6 x7 x8 x9 (some (.sh (.str s))) x13 x14 x15 x16 x17
  have p4 := tb_4 c (o := o') hk x2 x3 x4 (some (.sh (.lst ((linesOf ds).map D.str)))) x6 x7 x8 x9 (some (.sh (.lst ((parts 10 s).map D.str)))) (some (.sh (.lst (wr 0 (parts 10 s).dropLast)))) x13 x14 x16 x17
  have p5 := tb_5 c (o := o') hk x2 x3 x4 (some (.sh (.lst ((linesOf ds).map D.str)))) x6 x7 x8 x9 (some (.sh (.lst ((parts 10 s).map D.str)))) (some (.sh (.lst (wr 0 (parts 10 s).dropLast)))) x13 x14 (some (.sh (dueD s))) x16 x17
  have p6 := tb_6 c (o := o') hk x2 x3 x4 (some (.sh (.lst ((linesOf ds).map D.str)))) x6 x7 x8 (some (.sh (.str s))) (some (.sh (.lst (wr 0 (parts 10 s).dropLast)))) x13 x14 x16 x17
  exact ⟨o', _, _, _, _, _, _, _, (seq_nx p0).trans ((seq_nx p1).trans ((seq_nx p2).trans ((seq_nx p3).trans ((seq_nx p4).trans ((seq_nx p5).trans p6))))), t⟩
theorem for7 (c : Cs) {ds : List D} (hg : ∀ d ∈ ds, Good d) (hl : ds.length ≤ 9) (h1 : 1 ≤ ds.length) (x2 x3 x6 x7 x8 x16 x17 : Option O) : ∀ (zs : List D) (N : Int) (o : O), Stm N o → N + 10 * zs.length ≤ 1000000 → ∀ (x4 x9 x10 x11 x12 x13 x14 x15 : Option O),
    ∃ o' y4 y9 y10 y11 y12 y13 y14 y15, mFor (gSet 4 true) (tb7 (up5 c)) zs (EL o x2 x3 x4 (some (.sh (.lst ((linesOf ds).map D.str)))) x6 x7 x8 x9 x10 x11 x12 x13 x14 x15 x16 x17) = .ok .nx (EL o' x2 x3 y4 (some (.sh (.lst ((linesOf ds).map D.str)))) x6 x7 x8 y9 y10 y11 y12 y13 y14 y15 x16 x17) ∧ Stm (N + 10 * zs.length) o'
  | [], N, o, hs, hN, x4, x9, x10, x11, x12, x13, x14, x15 => ⟨o, x4, x9, x10, x11, x12, x13, x14, x15, rfl, hs.mono (by simp)⟩
  | z :: zs, N, o, hs, hN, x4, x9, x10, x11, x12, x13, x14, x15 => by
    rw [List.length_cons] at hN ⊢
    obtain ⟨o1, y9, y10, y11, y12, y13, y14, y15, p, t⟩ := tb7_ok c hs (by omega) hg hl h1 x2 x3 (some (.sh z)) x6 x7 x8 x9 x10 x11 x12 x13 x14 x15 x16 x17
    obtain ⟨o2, z4, z9, z10, z11, z12, z13, z14, z15, p2, t2⟩ := for7 c hg hl h1 x2 x3 x6 x7 x8 x16 x17 zs (N + 10) o1 t (by omega) (some (.sh z)) y9 y10 y11 y12 y13 y14 y15
    exact ⟨o2, z4, z9, z10, z11, z12, z13, z14, z15, (for_nx rfl p).trans p2, t2.mono (by omega)⟩
end L80

set_option Elab.async false
set_option linter.all false
set_option maxRecDepth 100000
set_option maxHeartbeats 4000000
namespace L80
open PySem PySem.Spec PyProof.Rows L2 Ow
def odds : List D := [.non, .int 5, .tup [.str ("stop" : Str)], .tup [.str tellS], .tup [.str tellS, .int 6], .tup [.str tellS, .bl true], .tup [.str hearS, .str ("a" : Str), .int 4], .tup [.str hearS, .str ("ab" : Str), .int 0], .tup [.str hearS, .str ("a" : Str)], .tup [.str freshS, .int 0], .tup [.str hearS, .str ("a\n" : Str), .int 0]]
theorem flat_s {s : Str} (h : (decide (s.length ≤ 5) && (tl s).all fun c => decide (c < 128)) = true) : Flat 5 (.str s) := by
  rw [Bool.and_eq_true] at h
  exact ⟨of_decide_eq_true h.1, fun c hc => of_decide_eq_true (List.all_eq_true.mp h.2 c hc)⟩
def flatB : D → Bool
  | .str s => decide (s.length ≤ 5) && (tl s).all fun c => decide (c < 128)
  | .int _ => true
  | .bl _ => true
  | .non => true
  | _ => false
theorem flatB_ok {d : D} (h : flatB d = true) : Flat 5 d := by
  cases d <;> first | exact flat_s h | trivial | cases h
theorem odds_ok : ∀ x ∈ odds, Odd 5 x ∧ pdB (rowOf x) = false := by
  have h : odds.all (fun x => x.ty.isSome && (rowOf x).all flatB && !pdB (rowOf x)) = true := by decide +kernel
  intro x hx
  have h := List.all_eq_true.mp h x hx
  rw [Bool.and_eq_true, Bool.and_eq_true] at h
  refine ⟨⟨fun z => by rw [z] at h; exact absurd h.1.1 Bool.false_ne_true, fun y hy => flatB_ok (List.all_eq_true.mp h.1.2 y hy)⟩, ?_⟩
  have := h.2
  cases q : pdB (rowOf x)
  · rfl
  · rw [q] at this; cases this
theorem cut_to {xs : List D} {a : Int} (h0 : 0 ≤ a) (h : a ≤ xs.length) : Ow.cutD xs none (some a) = xs.take a.toNat ∧ Ow.cutD xs (some a) none = xs.drop a.toNat := by
  have e0 : HT.sIx xs.length 0 none = 0 := rfl
  have e1 : HT.sIx xs.length xs.length none = xs.length := rfl
  have e2 : HT.sIx xs.length xs.length (some a) = a.toNat := by
    unfold HT.sIx
    simp
    rw [if_neg (by omega)]
    omega
  have e3 : HT.sIx xs.length 0 (some a) = a.toNat := by
    unfold HT.sIx
    simp
    rw [if_neg (by omega)]
    omega
  unfold Ow.cutD
  constructor
  · rw [e0, e2, List.drop_zero, Nat.sub_zero]
  · rw [e1, e3, List.take_of_length_le (by rw [List.length_drop]; exact Nat.le_refl _)]
theorem deed_flat {n : Nat} (hn : 4 ≤ n) : Flat n (.str ("deed" : Str)) := (okS ("deed" : Str) (by decide +kernel)).mono (by have : ("deed" : Str).length = 4 := by decide +kernel
                                                                                                                             rw [this]; exact hn)
theorem tb8_ok (c : Cs) {N : Int} {o : O} (hs : Stm N o) (hN : N + 10 ≤ 1000000) {ds : List D} (hg : ∀ d ∈ ds, Good d) (hl : ds.length ≤ 9) {x : D} (hx : x ∈ odds) (x2 x4 x5 x6 x7 x8 x9 x10 x11 x12 x13 x14 x15 x17 : Option O) :
    ∃ o' y13, tb8 (up5 c) (EL o x2 (some (.sh (.lst ds))) x4 x5 x6 x7 x8 x9 x10 x11 x12 x13 x14 x15 (some (.sh x)) x17) = .ok .nx (EL o' x2 (some (.sh (.lst ds))) x4 x5 x6 x7 x8 x9 x10 x11 x12 y13 x14 x15 (some (.sh x)) x17) ∧ Stm (N + 1) o' := by
  obtain ⟨ho, hp⟩ := odds_ok x hx
  have l1 : (1 : Nat) ≤ sizeLine := by decide
  have l2 : (2 : Nat) ≤ sizeLine := by decide
  generalize hE0 : EL o x2 (some (.sh (.lst ds))) x4 x5 x6 x7 x8 x9 x10 x11 x12 x13 x14 x15 (some (.sh x)) x17 = E0
  have hm : mBin addF (mLenNm 3) (M.ret (.sh (.int 1))) E0 = .ok (.sh (.int (ds.length + 1))) E0 := bin_ok (x := .sh (.int ds.length)) (e1 := E0) (by rw [← hE0]; rfl) nil_ok rfl
  obtain ⟨r, o', p1, r0, r1, t1⟩ := below2 (c := up4 c) (i := 1) (e := E0) hs (by omega) (many := ds.length + 1) (by omega) (by omega) (by rw [← hE0]; rfl) hm rfl (by rw [← hE0]; rfl)
  generalize hE : EL o' x2 (some (.sh (.lst ds))) x4 x5 x6 x7 x8 x9 x10 x11 x12 (some (.sh (.int r))) x14 x15 (some (.sh x)) x17 = E
  have s0 : tb8_0 (up5 c) E0 = .ok .nx E := by
    refine (asgS p1 (by rw [← hE0]; show 13 < 19; decide)).trans ?_
    rw [← hE0, ← hE]; rfl
  have h3 : mName 3 E = .ok (.sh (.lst ds)) E := by rw [← hE]; rfl
  have h13 : mName 13 E = .ok (.sh (.int r)) E := by rw [← hE]; rfl
  have h16 : mName 16 E = .ok (.sh x) E := by rw [← hE]; rfl
  have h18 : E[18]? = some (some (.tab lamQ)) := by rw [← hE]; rfl
  obtain ⟨c1, c2⟩ := cut_to (xs := ds) r0 (by omega)
  have a1 := slN h3 (noneP E) (plain0 h13)
  have a2 := slN h3 (plain0 h13) (noneP E)
  rw [c1] at a1
  rw [c2] at a2
  have a3 := addLs a1 (lst_ok (os := [x].map O.sh) (cons_ok h16 nil_ok) l1) (by rw [List.length_take, List.length_singleton]; omega)
  have a4 := addLs a3 a2 (by rw [List.length_append, List.length_take, List.length_drop, List.length_singleton]; omega)
  have e4 : ds.take r.toNat ++ [x] ++ ds.drop r.toNat = ds.take r.toNat ++ x :: ds.drop r.toNat := by simp
  rw [e4] at a4
  have q1 : (up5 c).deeds_text [.sh (.lst (ds.take r.toNat ++ x :: ds.drop r.toNat))] = .exc "BadDeed" [("index", .int (ds.take r.toNat).length)] [none] := by
    have e5 : (up5 c).deeds_text [.sh (.lst (ds.take r.toNat ++ x :: ds.drop r.toNat))] = dtR (ds.take r.toNat ++ x :: ds.drop r.toNat) := deeds_text_ok (up2 c) (n := 5) (by omega) (.lst (ds.take r.toNat ++ x :: ds.drop r.toNat)) _ (.inl rfl) (fun y hy => by
      have hgo : ∀ d ∈ ds, Odd 5 d := fun d hd => by
        obtain ⟨xs, rfl, hq⟩ := hg d hd
        exact ⟨(fun z => by cases z), pd_flat hq⟩
      rcases List.mem_append.mp hy with z | z
      · exact hgo y (List.mem_of_mem_take z)
      · rcases List.mem_cons.mp z with rfl | z
        · exact ho
        · exact hgo y (List.mem_of_mem_drop z)) (by rw [List.length_append, List.length_take, List.length_cons, List.length_drop]; omega)
    rw [e5, dtR_odd (fun d hd => good_pd (hg d (List.mem_of_mem_take hd))) hp]
  have el : ((ds.take r.toNat).length : Int) = r := by rw [List.length_take]; omega
  rw [el] at q1
  have w := words_exc h18 (call1x a4 (by rw [lstSh_er]; exact q1)) fD
  have q2 : (up5 c)._law_same [.sh (.tup [.str ("deed" : Str), .int r]), .sh (.tup [.str ("deed" : Str), .int r])] = .ok (.sh (.bl true)) [none, none] := same_ok (up3 c) 1 _ (nest_tup (n := 5) (nest_two (deed_flat (by omega)) trivial))
  have s1 : tb8_1 (up5 c) E = .ok .nx E := (if_f (notB_ok (tru_ok (callV2 (g := (up5 c)._law_same) w (tup_ok (os := [.sh (.str ("deed" : Str)), .sh (.int r)]) (cons_ok nil_ok (cons_ok h13 nil_ok)) l2) q2) rfl))).trans rfl
  refine ⟨o', some (.sh (.int r)), ?_, t1⟩
  rw [hE]
  exact (seq_nx s0).trans s1
theorem for8 (c : Cs) {ds : List D} (hg : ∀ d ∈ ds, Good d) (hl : ds.length ≤ 9) (x2 x4 x5 x6 x7 x8 x9 x10 x11 x12 x14 x15 x17 : Option O) : ∀ (zs : List D) (N : Int) (o : O), Stm N o → (∀ z ∈ zs, z ∈ odds) → N + zs.length + 10 ≤ 1000000 → ∀ (x13 x16 : Option O),
    ∃ o' y13 y16, mFor (gSet 16 true) (tb8 (up5 c)) zs (EL o x2 (some (.sh (.lst ds))) x4 x5 x6 x7 x8 x9 x10 x11 x12 x13 x14 x15 x16 x17) = .ok .nx (EL o' x2 (some (.sh (.lst ds))) x4 x5 x6 x7 x8 x9 x10 x11 x12 y13 x14 x15 y16 x17) ∧ Stm (N + zs.length) o'
  | [], N, o, hs, hz, hN, x13, x16 => ⟨o, x13, x16, rfl, hs.mono (by simp)⟩
  | z :: zs, N, o, hs, hz, hN, x13, x16 => by
    rw [List.length_cons] at hN ⊢
    obtain ⟨o1, y13, p, t⟩ := tb8_ok c hs (by omega) hg hl (hz z List.mem_cons_self) x2 x4 x5 x6 x7 x8 x9 x10 x11 x12 x13 x14 x15 x17
    obtain ⟨o2, z13, z16, p2, t2⟩ := for8 c hg hl x2 x4 x5 x6 x7 x8 x9 x10 x11 x12 x14 x15 x17 zs (N + 1) o1 t (fun y hy => hz y (List.mem_cons_of_mem _ hy)) (by omega) y13 (some (.sh z))
    exact ⟨o2, z13, z16, (for_nx rfl p).trans p2, t2.mono (by omega)⟩
/-! ### no notes, no texts -/
def odd4 : List D := [.non, .int 5, .str ("ab" : Str), .dct [] []]
theorem odd4_ok : ∀ x ∈ odd4, ∃ t, x.ty = some t ∧ (t.sub .list || t.sub .tuple) = false := by
  intro x hx
  unfold odd4 at hx
  simp only [List.mem_cons, List.not_mem_nil, or_false] at hx
  rcases hx with rfl | rfl | rfl | rfl <;> exact ⟨_, rfl, rfl⟩
abbrev dd0 : D := .tup [.str ("deed" : Str), .int 0]
abbrev dt0 : D := .tup [.str ("text" : Str), .int 0]
theorem nest_dd : Nest 5 2 (.lst [dd0, dt0]) := nest_lst (nest_two (nest_tup (nest_two (deed_flat (by omega)) trivial)) (nest_tup (nest_two (text_flat (by omega)) trivial)))
theorem gSetO {m : M O} {e e1 : Sl} {o : O} {i : Nat} (h : m e = .ok o e1) (hi : i < e1.length) : mAsg m (gSet i false) e = .ok .nx (e1.set i (some o)) := asg_ok h (gSet_own hi)
theorem tb9_ok (c : Cs) {o : O} {x : D} (hx : x ∈ odd4) (x2 x3 x4 x5 x6 x7 x8 x9 x10 x11 x12 x13 x14 x15 x17 : Option O) :
    ∃ y17, tb9 (up5 c) (EL o x2 x3 x4 x5 x6 x7 x8 x9 x10 x11 x12 x13 x14 x15 (some (.sh x)) x17) = .ok .nx (EL o x2 x3 x4 x5 x6 x7 x8 x9 x10 x11 x12 x13 x14 x15 (some (.sh x)) y17) := by
  obtain ⟨t, h1, h2⟩ := odd4_ok x hx
  have l1 : (1 : Nat) ≤ sizeLine := by decide
  have l2 : (2 : Nat) ≤ sizeLine := by decide
  generalize hE0 : EL o x2 x3 x4 x5 x6 x7 x8 x9 x10 x11 x12 x13 x14 x15 (some (.sh x)) x17 = E0
  generalize hE1 : EL o x2 x3 x4 x5 x6 x7 x8 x9 x10 x11 x12 x13 x14 x15 (some (.sh x)) (some (.lst [.sh dd0])) = E1
  generalize hE2 : EL o x2 x3 x4 x5 x6 x7 x8 x9 x10 x11 x12 x13 x14 x15 (some (.sh x)) (some (.lst [.sh dd0, .sh dt0])) = E2
  generalize hE3 : EL o x2 x3 x4 x5 x6 x7 x8 x9 x10 x11 x12 x13 x14 x15 (some (.sh x)) (some (.sh (.lst [dd0, dt0]))) = E3
  have q1 : (up5 c).deeds_text [.sh x] = _ := deeds_text_no (up4 c) x t h1 h2
  have q2 : (up5 c).read_deeds [.sh (.lst [x])] = _ := read_no (up3 c) (.lst [x]) .list rfl rfl
  have q3 : (up5 c).deeds_fault [.sh (.lst [x])] = _ := fault_no (up3 c) (.lst [x]) .list rfl rfl
  have q4 : (up5 c)._law_same [.sh (.lst [dd0, dt0]), .sh (.lst [dd0, dt0])] = .ok (.sh (.bl true)) [none, none] := same_ok (up2 c) 2 _ nest_dd
  have q5 : (up5 c)._law_same [.sh (.int 0), .sh (.int 0)] = .ok (.sh (.bl true)) [none, none] := same_flat (up4 c) (n := 5) (d := .int 0) trivial
  have s0 : tb9_0 (up5 c) E0 = .ok .nx E1 := by
    have h16 : mName 16 E0 = .ok (.sh x) E0 := by rw [← hE0]; rfl
    have h18 : E0[18]? = some (some (.tab lamQ)) := by rw [← hE0]; rfl
    refine (gSetO (lst_ok (os := [.sh dd0]) (cons_ok (words_exc h18 (call1x h16 q1) fD) nil_ok) l1) (by rw [← hE0]; show 17 < 19; decide)).trans ?_
    rw [← hE0, ← hE1]; rfl
  have s1 : tb9_1 (up5 c) E1 = .ok .nx E2 := by
    have h16 : mName 16 E1 = .ok (.sh x) E1 := by rw [← hE1]; rfl
    have h18 : E1[18]? = some (some (.tab lamQ)) := by rw [← hE1]; rfl
    have h17 : E1[17]? = some (some (.lst [.sh dd0])) := by rw [← hE1]; rfl
    refine (exp_ok (append_ok (i := 17) h17 (words_exc h18 (call1x (lst_ok (os := [.sh x]) (cons_ok h16 nil_ok) l1) q2) fT) h17 (by simp))).trans ?_
    rw [← hE1, ← hE2]; rfl
  have s2 : tb9_2 (up5 c) E2 = .ok .nx E3 := by
    have h17 : mName 17 E2 = .ok (.sh (.lst [dd0, dt0])) E3 := by rw [← hE2, ← hE3]; rfl
    have h16 : mName 16 E3 = .ok (.sh x) E3 := by rw [← hE3]; rfl
    have p1 := callV2 (g := (up5 c)._law_same) h17 (lst_ok (os := [.tup [.sh (.str ("deed" : Str)), .sh (.int 0)], .tup [.sh (.str ("text" : Str)), .sh (.int 0)]]) (cons_ok (tup_ok (cons_ok nil_ok (cons_ok nil_ok nil_ok)) l2) (cons_ok (tup_ok (cons_ok nil_ok (cons_ok nil_ok nil_ok)) l2) nil_ok)) l2) q4
    have p2 := callV2 (g := (up5 c)._law_same) (call1 (lst_ok (os := [.sh x]) (cons_ok h16 nil_ok) l1) q3) (nil_ok (a := O.sh (.int 0)) (e := E3)) q5
    exact (if_f ((or_f (notB_ok (tru_ok p1 rfl))).trans (notB_ok (tru_ok p2 rfl)))).trans rfl
  exact ⟨some (.sh (.lst [dd0, dt0])), by rw [hE3]; exact (seq_nx s0).trans ((seq_nx s1).trans s2)⟩
theorem for9 (c : Cs) {o : O} (x2 x3 x4 x5 x6 x7 x8 x9 x10 x11 x12 x13 x14 x15 : Option O) : ∀ (zs : List D), (∀ z ∈ zs, z ∈ odd4) → ∀ (x16 x17 : Option O),
    ∃ y16 y17, mFor (gSet 16 true) (tb9 (up5 c)) zs (EL o x2 x3 x4 x5 x6 x7 x8 x9 x10 x11 x12 x13 x14 x15 x16 x17) = .ok .nx (EL o x2 x3 x4 x5 x6 x7 x8 x9 x10 x11 x12 x13 x14 x15 y16 y17)
  | [], _, x16, x17 => ⟨x16, x17, rfl⟩
  | z :: zs, hz, x16, x17 => by
    obtain ⟨y17, p⟩ := tb9_ok c (o := o) (hz z List.mem_cons_self) x2 x3 x4 x5 x6 x7 x8 x9 x10 x11 x12 x13 x14 x15 x17
    obtain ⟨z16, z17, p2⟩ := for9 c (o := o) x2 x3 x4 x5 x6 x7 x8 x9 x10 x11 x12 x13 x14 x15 zs (fun y hy => hz y (List.mem_cons_of_mem _ hy)) (some (.sh z)) y17
    exact ⟨z16, z17, (for_nx rfl p).trans p2⟩
end L80

set_option Elab.async false
set_option linter.all false
set_option maxRecDepth 100000
set_option maxHeartbeats 4000000
namespace L80
open PySem PySem.Spec PyProof.Rows L2 Ow
theorem range_lit {k : Nat} (hk : k ≤ 1000) (e : Sl) : mRange1 (M.ret (.sh (.int (k : Int)))) e = .ok ((List.range k).map fun i : Nat => D.int (0 + (i : Int))) e := range1_ok nil_ok rfl (by omega)
theorem tu_7 (c : Cs) {N : Int} {o : O} (hs : Stm N o) (hN : N + 120 ≤ 1000000) {ds : List D} (hg : ∀ d ∈ ds, Good d) (hl : ds.length ≤ 9) (h1 : 1 ≤ ds.length) (x2 x3 x4 x6 x7 x8 x9 x10 x11 x12 x13 x14 x15 x16 x17 : Option O) :
    ∃ o' y4 y9 y10 y11 y12 y13 y14 y15, tu7 (up5 c) (EL o x2 x3 x4 (some (.sh (.lst ((linesOf ds).map D.str)))) x6 x7 x8 x9 x10 x11 x12 x13 x14 x15 x16 x17) = .ok .nx (EL o' x2 x3 y4 (some (.sh (.lst ((linesOf ds).map D.str)))) x6 x7 x8 y9 y10 y11 y12 y13 y14 y15 x16 x17) ∧ Stm (N + 120) o' := by
  obtain ⟨o', y4, y9, y10, y11, y12, y13, y14, y15, p, t⟩ := for7 c hg hl h1 x2 x3 x6 x7 x8 x16 x17 ((List.range 12).map fun i : Nat => D.int (0 + (i : Int))) N o hs (by rw [List.length_map, List.length_range]; omega) x4 x9 x10 x11 x12 x13 x14 x15
  rw [List.length_map, List.length_range] at t
  exact ⟨o', y4, y9, y10, y11, y12, y13, y14, y15, (bind_ok (range_lit (k := 12) (by omega) _)).trans p, t.mono (by omega)⟩
theorem walk_lit {m : M O} {e : Sl} {o : O} {ds : List D} (h : m e = .ok o e) (hd : o.er.walk = some ds) : mWalk m e = .ok ds e := walk_ok h hd
theorem tu_8 (c : Cs) {N : Int} {o : O} (hs : Stm N o) (hN : N + 21 ≤ 1000000) {ds : List D} (hg : ∀ d ∈ ds, Good d) (hl : ds.length ≤ 9) (x2 x4 x5 x6 x7 x8 x9 x10 x11 x12 x13 x14 x15 x16 x17 : Option O) :
    ∃ o' y13 y16, tu8 (up5 c) (EL o x2 (some (.sh (.lst ds))) x4 x5 x6 x7 x8 x9 x10 x11 x12 x13 x14 x15 x16 x17) = .ok .nx (EL o' x2 (some (.sh (.lst ds))) x4 x5 x6 x7 x8 x9 x10 x11 x12 y13 x14 x15 y16 x17) ∧ Stm (N + 11) o' := by
  obtain ⟨o', y13, y16, p, t⟩ := for8 c hg hl x2 x4 x5 x6 x7 x8 x9 x10 x11 x12 x14 x15 x17 odds N o hs (fun z hz => hz) (by show N + (11 : Nat) + 10 ≤ 1000000; omega) x13 x16
  have l1 : (1 : Nat) ≤ sizeLine := by decide
  have l2 : (2 : Nat) ≤ sizeLine := by decide
  have l3 : (3 : Nat) ≤ sizeLine := by decide
  have l11 : (11 : Nat) ≤ sizeLine := by decide
  refine ⟨o', y13, y16, (bind_ok (walk_lit (ds := odds) (o := .lst [.sh .non, .sh (.int 5), .tup [.sh (.str ("stop" : Str))], .tup [.sh (.str tellS)], .tup [.sh (.str tellS), .sh (.int 6)], .tup [.sh (.str tellS), .sh (.bl true)], .tup [.sh (.str hearS), .sh (.str ("a" : Str)), .sh (.int 4)], .tup [.sh (.str hearS), .sh (.str ("ab" : Str)), .sh (.int 0)], .tup [.sh (.str hearS), .sh (.str ("a" : Str))], .tup [.sh (.str freshS), .sh (.int 0)], .tup [.sh (.str hearS), .sh (.str ("a\n" : Str)), .sh (.int 0)]]) ?_ rfl)).trans p, t.mono (by show N + (11 : Nat) ≤ N + 11; omega)⟩
  generalize EL o x2 (some (.sh (.lst ds))) x4 x5 x6 x7 x8 x9 x10 x11 x12 x13 x14 x15 x16 x17 = E
  refine lst_ok (cons_ok nil_ok (cons_ok nil_ok (cons_ok (tup_ok (cons_ok nil_ok nil_ok) l1) (cons_ok (tup_ok (cons_ok nil_ok nil_ok) l1) (cons_ok (tup_ok (cons_ok nil_ok (cons_ok nil_ok nil_ok)) l2) (cons_ok (tup_ok (cons_ok nil_ok (cons_ok nil_ok nil_ok)) l2) (cons_ok (tup_ok (cons_ok nil_ok (cons_ok nil_ok (cons_ok nil_ok nil_ok))) l3) (cons_ok (tup_ok (cons_ok nil_ok (cons_ok nil_ok (cons_ok nil_ok nil_ok))) l3) (cons_ok (tup_ok (cons_ok nil_ok (cons_ok nil_ok nil_ok)) l2) (cons_ok (tup_ok (cons_ok nil_ok (cons_ok nil_ok nil_ok)) l2) (cons_ok (tup_ok (cons_ok nil_ok (cons_ok nil_ok (cons_ok nil_ok nil_ok))) l3) nil_ok))))))))))) l11
theorem tu_9 (c : Cs) {o : O} (x2 x3 x4 x5 x6 x7 x8 x9 x10 x11 x12 x13 x14 x15 x16 x17 : Option O) :
    ∃ y16 y17, tu9 (up5 c) (EL o x2 x3 x4 x5 x6 x7 x8 x9 x10 x11 x12 x13 x14 x15 x16 x17) = .ok .nx (EL o x2 x3 x4 x5 x6 x7 x8 x9 x10 x11 x12 x13 x14 x15 y16 y17) := by
  obtain ⟨y16, y17, p⟩ := for9 c (o := o) x2 x3 x4 x5 x6 x7 x8 x9 x10 x11 x12 x13 x14 x15 odd4 (fun z hz => hz) x16 x17
  have l4 : (4 : Nat) ≤ sizeLine := by decide
  refine ⟨y16, y17, (bind_ok (walk_lit (ds := odd4) (o := .lst [.sh .non, .sh (.int 5), .sh (.str ("ab" : Str)), .sh (.dct [] [])]) ?_ rfl)).trans p⟩
  exact lst_ok (cons_ok nil_ok (cons_ok nil_ok (cons_ok nil_ok (cons_ok nil_ok nil_ok)))) l4
theorem tu_ok (c : Cs) {N : Int} {o : O} (hs : Stm N o) (hN : N + 200 ≤ 1000000) (x2 x3 x4 x5 x6 x7 x8 x9 x10 x11 x12 x13 x14 x15 x16 x17 : Option O) :
    ∃ o' y3 y4 y5 y8 y9 y10 y11 y12 y13 y14 y15 y16 y17, tu (up5 c) (EL o x2 x3 x4 x5 x6 x7 x8 x9 x10 x11 x12 x13 x14 x15 x16 x17) = .ok .nx (EL o' x2 y3 y4 y5 x6 x7 y8 y9 y10 y11 y12 y13 y14 y15 y16 y17) ∧ Stm (N + 178) o' := by
  obtain ⟨ds, o1, p0, hg, h1, hl, t1⟩ := tu_0 (up2 c) hs (by omega) x2 x3 x4 x5 x6 x7 x8 x9 x10 x11 x12 x13 x14 x15 x16 x17
  have p1 := tu_1 (up5 c) (o := o1) hg x2 x4 x5 x6 x7 x8 x9 x10 x11 x12 x13 x14 x15 x16 x17
  obtain ⟨p2, hk⟩ := tu_2 (up4 c) (o := o1) hg hl x2 (some (.sh (.lst ds))) x4 x6 x7 x8 x9 x10 x11 x12 x13 x14 x15 x16 x17
  obtain ⟨o3, p3, t3⟩ := tu_3 (up2 c) t1 (by omega) hg hl x2 x4 (some (.sh (.lst ((linesOf ds).map D.str)))) x6 x7 (some (.sh (.str (mtext (linesOf ds))))) x9 x10 x11 x12 x13 x14 x15 x16 x17
  have p4 := tu_4 c (o := o3) hg hk x2 (some (.sh (.lst ds))) x4 (some (.sh (.lst ((linesOf ds).map D.str)))) x6 x7 x10 x11 x12 x13 x14 x15 x16 x17
  have p5 := tu_5 c (o := o3) hg hk x2 x4 (some (.sh (.lst ((linesOf ds).map D.str)))) x6 x7 x10 x11 x12 x13 x14 x15 x16 x17
  have p6 := tu_6 c (o := o3) hg hl hk x2 x4 (some (.sh (.lst ((linesOf ds).map D.str)))) x6 x7 x10 x11 x12 x13 x14 x15 x16 x17
  obtain ⟨o7, y4, y9, y10, y11, y12, y13, y14, y15, p7, t7⟩ := tu_7 c t3 (by omega) hg hl h1 x2 (some (.sh (.lst ds))) x4 x6 x7 (some (.sh (.str (mtext (linesOf ds))))) none x10 x11 x12 x13 x14 x15 x16 x17
  obtain ⟨o8, z13, z16, p8, t8⟩ := tu_8 c t7 (by omega) hg hl x2 y4 (some (.sh (.lst ((linesOf ds).map D.str)))) x6 x7 (some (.sh (.str (mtext (linesOf ds))))) y9 y10 y11 y12 y13 y14 y15 x16 x17
  obtain ⟨w16, w17, p9⟩ := tu_9 c (o := o8) x2 (some (.sh (.lst ds))) y4 (some (.sh (.lst ((linesOf ds).map D.str)))) x6 x7 (some (.sh (.str (mtext (linesOf ds))))) y9 y10 y11 y12 z13 y14 y15 z16 x17
  exact ⟨o8, _, _, _, _, _, _, _, _, _, _, _, _, _, (seq_nx p0).trans ((seq_nx p1).trans ((seq_nx p2).trans ((seq_nx p3).trans ((seq_nx p4).trans ((seq_nx p5).trans ((seq_nx p6).trans ((seq_nx p7).trans ((seq_nx p8).trans p9)))))))), t8.mono (by omega)⟩
theorem for0 (c : Cs) (x6 x7 : Option O) : ∀ (zs : List D) (N : Int) (o : O), Stm N o → N + 200 * zs.length ≤ 1000000 → ∀ (x2 x3 x4 x5 x8 x9 x10 x11 x12 x13 x14 x15 x16 x17 : Option O),
    ∃ o' y2 y3 y4 y5 y8 y9 y10 y11 y12 y13 y14 y15 y16 y17, mFor (gSet 2 true) (tu (up5 c)) zs (EL o x2 x3 x4 x5 x6 x7 x8 x9 x10 x11 x12 x13 x14 x15 x16 x17) = .ok .nx (EL o' y2 y3 y4 y5 x6 x7 y8 y9 y10 y11 y12 y13 y14 y15 y16 y17)
  | [], N, o, hs, hN, x2, x3, x4, x5, x8, x9, x10, x11, x12, x13, x14, x15, x16, x17 => ⟨o, x2, x3, x4, x5, x8, x9, x10, x11, x12, x13, x14, x15, x16, x17, rfl⟩
  | z :: zs, N, o, hs, hN, x2, x3, x4, x5, x8, x9, x10, x11, x12, x13, x14, x15, x16, x17 => by
    rw [List.length_cons] at hN
    obtain ⟨o1, y3, y4, y5, y8, y9, y10, y11, y12, y13, y14, y15, y16, y17, p, t⟩ := tu_ok c hs (by omega) (some (.sh z)) x3 x4 x5 x6 x7 x8 x9 x10 x11 x12 x13 x14 x15 x16 x17
    obtain ⟨o2, z2, z3, z4, z5, z8, z9, z10, z11, z12, z13, z14, z15, z16, z17, p2⟩ := for0 c x6 x7 zs (N + 178) o1 t (by omega) (some (.sh z)) y3 y4 y5 y8 y9 y10 y11 y12 y13 y14 y15 y16 y17
    exact ⟨o2, z2, z3, z4, z5, z8, z9, z10, z11, z12, z13, z14, z15, z16, z17, (for_nx rfl p).trans p2⟩
/-! ### the end -/
abbrev emD : D := .str ("" : Str)
theorem em_ok : Ok 0 ("" : Str) := okS ("" : Str) (by decide +kernel)
theorem lrO_em : lrO ("" : Str) = ([], .non) := lrO_good (ds := []) (fun d hd => nomatch hd)
theorem la_end (c : Cs) {o : O} (x2 x3 x4 x5 x6 x7 x8 x9 x10 x11 x12 x13 x14 x15 x16 x17 : Option O) :
    ∃ e', mSeq (la1 (up5 c)) (mSeq (la2 (up5 c)) (la3 (up5 c))) (EL o x2 x3 x4 x5 x6 x7 x8 x9 x10 x11 x12 x13 x14 x15 x16 x17) = .ok (.rt (.sh (.bl true))) e' := by
  have l0 : (0 : Nat) ≤ sizeLine := by decide
  have l1 : (1 : Nat) ≤ sizeLine := by decide
  have l2 : (2 : Nat) ≤ sizeLine := by decide
  generalize hE0 : EL o x2 x3 x4 x5 x6 x7 x8 x9 x10 x11 x12 x13 x14 x15 x16 x17 = E0
  generalize hE1 : EL o x2 x3 x4 x5 x6 x7 x8 x9 x10 x11 x12 x13 x14 x15 x16 (some (.lst [toldT ("" : Str)])) = E1
  generalize hE2 : EL o x2 x3 x4 x5 x6 x7 x8 x9 x10 x11 x12 x13 x14 x15 x16 (some (.lst [toldT ("" : Str), toldL []])) = E2
  generalize hE3 : EL o x2 x3 x4 x5 x6 x7 x8 x9 x10 x11 x12 x13 x14 x15 x16 (some (.sh (.lst [.tup [.str toldS, emD], .tup [.str toldS, .lst []]]))) = E3
  have q1 : (up5 c).deeds_text [.sh (.lst [])] = .ok (.sh emD) [none] := by
    have e5 : (up5 c).deeds_text [.sh (.lst [])] = dtR [] := deeds_text_ok (up2 c) (n := 5) (by omega) (.lst []) [] (.inl rfl) (fun y hy => nomatch hy) (by simp)
    rw [e5, dtR_good (ds := []) (fun d hd => nomatch hd)]
    rfl
  have q2 : (up5 c).read_deeds [.sh emD] = .ok (.lst (([] : List D).map O.sh)) [none] := by
    have e5 : (up5 c).read_deeds [.sh emD] = _ := read_ok c em_ok (by omega)
    rw [e5, lrO_em]
    rfl
  have q4 : (up5 c)._law_same [.sh (.lst [.tup [.str toldS, emD], .tup [.str toldS, .lst []]]), .sh (.lst [.tup [.str toldS, emD], .tup [.str toldS, .lst []]])] = .ok (.sh (.bl true)) [none, none] := same_ok c 4 _ (nest_told (n := 5) (ds := []) (by omega) (em_ok.mono (by omega)) fun d hd => nomatch hd)
  have s1 : la1 (up5 c) E0 = .ok .nx E1 := by
    have h18 : E0[18]? = some (some (.tab lamQ)) := by rw [← hE0]; rfl
    refine (gSetO (lst_ok (os := [toldT ("" : Str)]) (cons_ok (words_ok h18 (call1 (lst_ok (os := []) nil_ok l0) q1)) nil_ok) l1) (by rw [← hE0]; show 17 < 19; decide)).trans ?_
    rw [← hE0, ← hE1]; rfl
  have s2 : la2 (up5 c) E1 = .ok .nx E2 := by
    have h18 : E1[18]? = some (some (.tab lamQ)) := by rw [← hE1]; rfl
    have h17 : E1[17]? = some (some (.lst [toldT ("" : Str)])) := by rw [← hE1]; rfl
    refine (exp_ok (append_ok (i := 17) h17 (words_ok h18 (call1 (nil_ok (a := O.sh emD)) q2)) h17 (by simp))).trans ?_
    rw [← hE1, ← hE2]; rfl
  have s3 : la3 (up5 c) E2 = .ok (.rt (.sh (.bl true))) E3 := by
    have h17 : mName 17 E2 = .ok (.sh (.lst [.tup [.str toldS, emD], .tup [.str toldS, .lst []]])) E3 := by rw [← hE2, ← hE3]; rfl
    exact ret_ok (callV2 (g := (up5 c)._law_same) h17 (lst_ok (os := [.tup [.sh (.str toldS), .sh emD], .tup [.sh (.str toldS), .lst []]]) (cons_ok (tup_ok (cons_ok nil_ok (cons_ok nil_ok nil_ok)) l2) (cons_ok (tup_ok (cons_ok nil_ok (cons_ok (lst_ok (os := []) nil_ok l0) nil_ok)) l2) nil_ok)) l2) q4)
  exact ⟨E3, (seq_nx s1).trans ((seq_nx s2).trans s3)⟩
theorem start_stm {ns : List Int} (h : ns.length ≤ 63) : Stm 0 (startO ns) := ⟨ns, 0, 0, 43, rfl, h, by omega, by omega, by omega, by omega, by omega⟩
theorem hm : ∀ ns : List Int, ns.length ≤ 63 → ∃ e', m_law (cs 20) (lawE 19 18 lamQ ns) = .ok (.rt (.sh (.bl true))) e' := by
  intro ns h
  obtain ⟨o', y2, y3, y4, y5, y8, y9, y10, y11, y12, y13, y14, y15, y16, y17, p⟩ := for0 (cs 15) none none ((List.range 4).map fun i : Nat => D.int (0 + (i : Int))) 0 (startO ns) (start_stm h) (by rw [List.length_map, List.length_range]; omega) none none none none none none none none none none none none none none
  obtain ⟨e', p2⟩ := la_end (cs 15) (o := o') y2 y3 y4 y5 none none y8 y9 y10 y11 y12 y13 y14 y15 y16 y17
  refine ⟨e', ?_⟩
  rw [la_eq]
  have p0 : la0 (cs 20) (lawE 19 18 lamQ ns) = .ok .nx _ := (bind_ok (range_lit (k := 4) (by omega) _)).trans p
  exact (seq_nx p0).trans p2
end L80

set_option Elab.async false
set_option linter.all false
set_option maxRecDepth 100000
set_option maxHeartbeats 4000000
namespace L80
open PySem PySem.Spec PyProof.Rows L2 Ow
def top (i : Nat) : Stmt := PySem.Challenge.pw_whichstate_k80_whole_texts_of_notes.main.body.getD i (.Pass ⟨0, 0, 0, 0⟩)
abbrev FnP (K : PySem.W.Frag) (x : Str) (st : Stmt) (f : Addr) (fd : FuncData) : Prop := FunD K x x (defArgs st) (defBody st) (defScope st) [] [] f fd
structure EnvL (P : Program) (w : World) (K : PySem.W.Frag) (mg : Str → Option Value) (base : Heap) : Prop where
  b_all : mg ("all" : Str) = none
  b_bool : mg ("bool" : Str) = none
  b_dict : mg ("dict" : Str) = none
  b_enumerate : mg ("enumerate" : Str) = none
  b_int : mg ("int" : Str) = none
  b_isinstance : mg ("isinstance" : Str) = none
  b_len : mg ("len" : Str) = none
  b_list : mg ("list" : Str) = none
  b_range : mg ("range" : Str) = none
  b_str : mg ("str" : Str) = none
  b_tuple : mg ("tuple" : Str) = none
  b_zip : mg ("zip" : Str) = none
  g_SMALL : Gv K mg ("SMALL" : Str) (.str smallS)
  g_NUMBERS : Gv K mg ("NUMBERS" : Str) (.tup numsD)
  t_SIZES : Tb K w mg ("SIZES" : Str) tab_SIZES
  x_BadDeed : Xc P w K mg base 1 ("BadDeed" : Str) ("index" : Str)
  x_BadText : Xc P w K mg base 1 ("BadText" : Str) ("line" : Str)
  d_is_number : ∃ f fd, mg ("is_number" : Str) = some (.ref f) ∧ FnP K ("is_number" : Str) (top 6) f fd ∧ Binds K fd ["thing", "low", "high"] []
  d_is_letter : ∃ f fd, mg ("is_letter" : Str) = some (.ref f) ∧ FnP K ("is_letter" : Str) (top 7) f fd ∧ Binds K fd ["thing"] []
  d_is_deed : ∃ f fd, mg ("is_deed" : Str) = some (.ref f) ∧ FnP K ("is_deed" : Str) (top 10) f fd ∧ Binds K fd ["thing"] []
  d_plain_deed : ∃ f fd, mg ("plain_deed" : Str) = some (.ref f) ∧ FnP K ("plain_deed" : Str) (top 13) f fd ∧ Binds K fd ["thing"] []
  d_deeds_text : ∃ f fd, mg ("deeds_text" : Str) = some (.ref f) ∧ FnP K ("deeds_text" : Str) (top 14) f fd ∧ Binds K fd ["deeds"] []
  d_deed_of : ∃ f fd, mg ("deed_of" : Str) = some (.ref f) ∧ FnP K ("deed_of" : Str) (top 15) f fd ∧ Binds K fd ["line"] []
  d_lines_read : ∃ f fd, mg ("lines_read" : Str) = some (.ref f) ∧ FnP K ("lines_read" : Str) (top 16) f fd ∧ Binds K fd ["text"] []
  d_deeds_fault : ∃ f fd, mg ("deeds_fault" : Str) = some (.ref f) ∧ FnP K ("deeds_fault" : Str) (top 17) f fd ∧ Binds K fd ["text"] []
  d_read_deeds : ∃ f fd, mg ("read_deeds" : Str) = some (.ref f) ∧ FnP K ("read_deeds" : Str) (top 18) f fd ∧ Binds K fd ["text"] []
  d__law_mbent : ∃ f fd, mg ("_law_mbent" : Str) = some (.ref f) ∧ FnP K ("_law_mbent" : Str) (top 20) f fd ∧ Binds K fd ["stream", "lines", "more"] []
  d__law_mtext : ∃ f fd, mg ("_law_mtext" : Str) = some (.ref f) ∧ FnP K ("_law_mtext" : Str) (top 21) f fd ∧ Binds K fd ["lines"] []
  d__law_below : ∃ f fd, mg ("_law_below" : Str) = some (.ref f) ∧ FnP K ("_law_below" : Str) (top 23) f fd ∧ Binds K fd ["stream", "many"] []
  d__law_pick : ∃ f fd, mg ("_law_pick" : Str) = some (.ref f) ∧ FnP K ("_law_pick" : Str) (top 24) f fd ∧ Binds K fd ["stream", "some"] []
  d__law_mixed : ∃ f fd, mg ("_law_mixed" : Str) = some (.ref f) ∧ FnP K ("_law_mixed" : Str) (top 25) f fd ∧ Binds K fd ["stream", "some"] []
  d__law_same : ∃ f fd, mg ("_law_same" : Str) = some (.ref f) ∧ FnP K ("_law_same" : Str) (top 26) f fd ∧ Binds K fd ["found", "due"] []
  d__law_loose : ∃ f fd, mg ("_law_loose" : Str) = some (.ref f) ∧ FnP K ("_law_loose" : Str) (top 27) f fd ∧ Binds K fd ["stream", "thing"] []
  d__law_spoilt : ∃ f fd, mg ("_law_spoilt" : Str) = some (.ref f) ∧ FnP K ("_law_spoilt" : Str) (top 28) f fd ∧ Binds K fd ["thing"] []
  d__law_is_once : ∃ f fd, mg ("_law_is_once" : Str) = some (.ref f) ∧ FnP K ("_law_is_once" : Str) (top 29) f fd ∧ Binds K fd ["thing"] []
  d__law_apart : ∃ f fd, mg ("_law_apart" : Str) = some (.ref f) ∧ FnP K ("_law_apart" : Str) (top 30) f fd ∧ Binds K fd ["thing"] []
  d__law_mread : ∃ f fd, mg ("_law_mread" : Str) = some (.ref f) ∧ FnP K ("_law_mread" : Str) (top 31) f fd ∧ Binds K fd ["line"] []
  d__law_mform : ∃ f fd, mg ("_law_mform" : Str) = some (.ref f) ∧ FnP K ("_law_mform" : Str) (top 32) f fd ∧ Binds K fd ["stream"] []
structure Dfs (P : Program) (w : World) (K : PySem.W.Frag) (mg : Str → Option Value) (base : Heap) (n : Nat) (c : Cs) : Prop where
  is_number : Df P w K mg base n ("is_number" : Str) 3 c.is_number
  is_letter : Df P w K mg base n ("is_letter" : Str) 1 c.is_letter
  is_deed : Df P w K mg base n ("is_deed" : Str) 1 c.is_deed
  plain_deed : Df P w K mg base n ("plain_deed" : Str) 1 c.plain_deed
  deeds_text : Df P w K mg base n ("deeds_text" : Str) 1 c.deeds_text
  deed_of : Df P w K mg base n ("deed_of" : Str) 1 c.deed_of
  lines_read : Df P w K mg base n ("lines_read" : Str) 1 c.lines_read
  deeds_fault : Df P w K mg base n ("deeds_fault" : Str) 1 c.deeds_fault
  read_deeds : Df P w K mg base n ("read_deeds" : Str) 1 c.read_deeds
  _law_mbent : Df P w K mg base n ("_law_mbent" : Str) 3 c._law_mbent
  _law_mtext : Df P w K mg base n ("_law_mtext" : Str) 1 c._law_mtext
  _law_below : Df P w K mg base n ("_law_below" : Str) 2 c._law_below
  _law_pick : Df P w K mg base n ("_law_pick" : Str) 2 c._law_pick
  _law_mixed : Df P w K mg base n ("_law_mixed" : Str) 2 c._law_mixed
  _law_same : Df P w K mg base n ("_law_same" : Str) 2 c._law_same
  _law_loose : Df P w K mg base n ("_law_loose" : Str) 2 c._law_loose
  _law_spoilt : Df P w K mg base n ("_law_spoilt" : Str) 1 c._law_spoilt
  _law_is_once : Df P w K mg base n ("_law_is_once" : Str) 1 c._law_is_once
  _law_apart : Df P w K mg base n ("_law_apart" : Str) 1 c._law_apart
  _law_mread : Df P w K mg base n ("_law_mread" : Str) 1 c._law_mread
  _law_mform : Df P w K mg base n ("_law_mform" : Str) 1 c._law_mform
section
variable {P : Program} {w : World} {K : PySem.W.Frag} {mg : Str → Option Value} {base : Heap} {n : Nat} {c : Cs}
theorem sc_is_number : FnScope N_is_number ["thing", "low", "high"] (defScope (top 6)) := ⟨rfl, rfl, rfl, by decide +kernel, rfl, by decide +kernel, by decide +kernel⟩
theorem df_is_number (V : EnvL P w K mg base) (hn : 2 ≤ n) (D : Dfs P w K mg base n c) : Df P w K mg base (n + 1) "is_number" 3 (b_is_number c) := by
  obtain ⟨f, fd, hm, F, hb⟩ := V.d_is_number
  refine ⟨f, fd, ["thing", "low", "high"], hm, F.kp, rfl, hb, fn_ok (N := N_is_number) (io := []) (m := m_is_number c) F sc_is_number (by decide) fun cdv A outer s H E hr => ?_⟩
  unfold m_is_number
  exact (sb_one (ss_ret (se_and (se_isinstance (by rfl) V.b_isinstance (sa_cons (se_name 0) (sa_cons (se_ty .int (by rfl) V.b_int (by decide +kernel)) sa_nil))) (se_and (se_not (se_isinstance (by rfl) V.b_isinstance (sa_cons (se_name 0) (sa_cons (se_ty .bool (by rfl) V.b_bool (by decide +kernel)) sa_nil)))) (se_and1 (se_lele (se_name 1) (se_name 0) (se_name 2)))))))
theorem sc_is_letter : FnScope N_is_letter ["thing"] (defScope (top 7)) := ⟨rfl, rfl, rfl, by decide +kernel, rfl, by decide +kernel, by decide +kernel⟩
theorem df_is_letter (V : EnvL P w K mg base) (hn : 2 ≤ n) (D : Dfs P w K mg base n c) : Df P w K mg base (n + 1) "is_letter" 1 (b_is_letter c) := by
  obtain ⟨f, fd, hm, F, hb⟩ := V.d_is_letter
  refine ⟨f, fd, ["thing"], hm, F.kp, rfl, hb, fn_ok (N := N_is_letter) (io := []) (m := m_is_letter c) F sc_is_letter (by decide) fun cdv A outer s H E hr => ?_⟩
  unfold m_is_letter
  exact (sb_one (ss_ret (se_and (se_isinstance (by rfl) V.b_isinstance (sa_cons (se_name 0) (sa_cons (se_ty .str (by rfl) V.b_str (by decide +kernel)) sa_nil))) (se_and (se_eq hr.units (se_lenNm 0 (by rfl) V.b_len) se_int) (se_and1 (se_in (u65 hr) (se_name 0) (se_gv V.g_SMALL (by rfl))))))))
theorem sc_is_deed : FnScope N_is_deed ["thing"] (defScope (top 10)) := ⟨rfl, rfl, rfl, by decide +kernel, rfl, by decide +kernel, by decide +kernel⟩
theorem df_is_deed (V : EnvL P w K mg base) (hn : 2 ≤ n) (D : Dfs P w K mg base n c) : Df P w K mg base (n + 1) "is_deed" 1 (b_is_deed c) := by
  obtain ⟨f, fd, hm, F, hb⟩ := V.d_is_deed
  refine ⟨f, fd, ["thing"], hm, F.kp, rfl, hb, fn_ok (N := N_is_deed) (io := []) (m := m_is_deed c) F sc_is_deed (by decide) fun cdv A outer s H E hr => ?_⟩
  unfold m_is_deed
  exact (sb_cons (ss_if ((sw_or (st_not (st_truth (se_isinstance (by rfl) V.b_isinstance (sa_cons (se_name 0) (sa_cons (se_tup (sa_cons (se_ty .list (by rfl) V.b_list (by decide +kernel)) (sa_cons (se_ty .tuple (by rfl) V.b_tuple (by decide +kernel)) sa_nil))) sa_nil))))) (sw_or (st_not (st_name 0)) (sw_or1 (st_not (st_truth (se_isinstance (by rfl) V.b_isinstance (sa_cons (se_ix (se_name 0) se_int) (sa_cons (se_ty .str (by rfl) V.b_str (by decide +kernel)) sa_nil))))))))).st (sb_one (ss_ret se_bl)) sb_nil) (sb_one (ss_ret (se_and (se_inTab V.t_SIZES (by rfl) (se_ix (se_name 0) se_int)) (se_and1 (se_eq hr.units (se_lenNm 0 (by rfl) V.b_len) (se_ixTab V.t_SIZES (by rfl) (se_ix (se_name 0) se_int))))))))
theorem sc_plain_deed : FnScope N_plain_deed ["thing"] (defScope (top 13)) := ⟨rfl, rfl, rfl, by decide +kernel, rfl, by decide +kernel, by decide +kernel⟩
theorem df_plain_deed (V : EnvL P w K mg base) (hn : 2 ≤ n) (D : Dfs P w K mg base n c) : Df P w K mg base (n + 1) "plain_deed" 1 (b_plain_deed c) := by
  obtain ⟨f, fd, hm, F, hb⟩ := V.d_plain_deed
  refine ⟨f, fd, ["thing"], hm, F.kp, rfl, hb, fn_ok (N := N_plain_deed) (io := []) (m := m_plain_deed c) F sc_plain_deed (by decide) fun cdv A outer s H E hr => ?_⟩
  unfold m_plain_deed
  exact (sb_cons (ss_if (st_not (st_truth (se_call D.is_deed hr (Nat.le_refl _) takes_body (by rfl) (sas_v (se_name 0) sas_nil)))) (sb_one (ss_ret se_non)) sb_nil) (sb_cons (ss_set 1 true sc_plain_deed.nd (by rfl) (by first | exact Or.inl rfl | exact Or.inr rfl) se_bl) (sb_cons (ss_if (st_eq hr.units (se_ix (se_name 0) se_int) se_str) (sb_one (ss_set 1 true sc_plain_deed.nd (by rfl) (by first | exact Or.inl rfl | exact Or.inr rfl) (se_and (se_call D.is_letter hr (Nat.le_refl _) takes_body (by rfl) (sas_v (se_ix (se_name 0) se_int) sas_nil)) (se_and1 (se_call D.is_number hr (Nat.le_refl _) takes_body (by rfl) (sas_v (se_ix (se_name 0) se_int) (sas_v se_int (sas_v se_int sas_nil)))))))) sb_nil) (sb_cons (ss_if (st_eq hr.units (se_ix (se_name 0) se_int) se_str) (sb_one (ss_set 1 true sc_plain_deed.nd (by rfl) (by first | exact Or.inl rfl | exact Or.inr rfl) (se_call D.is_number hr (Nat.le_refl _) takes_body (by rfl) (sas_v (se_ix (se_name 0) se_int) (sas_v se_int (sas_v se_int sas_nil)))))) sb_nil) (sb_one (ss_ret (se_if (st_name 1) (se_tuple1 (by rfl) V.b_tuple (se_name 0)) se_non)))))))
theorem sc_deeds_text : FnScope N_deeds_text ["deeds"] (defScope (top 14)) := ⟨rfl, rfl, rfl, by decide +kernel, rfl, by decide +kernel, by decide +kernel⟩
theorem df_deeds_text (V : EnvL P w K mg base) (hn : 2 ≤ n) (D : Dfs P w K mg base n c) : Df P w K mg base (n + 1) "deeds_text" 1 (b_deeds_text c) := by
  obtain ⟨f, fd, hm, F, hb⟩ := V.d_deeds_text
  refine ⟨f, fd, ["deeds"], hm, F.kp, rfl, hb, fn_ok (N := N_deeds_text) (io := []) (m := m_deeds_text c) F sc_deeds_text (by decide) fun cdv A outer s H E hr => ?_⟩
  unfold m_deeds_text
  exact (sb_cons (ss_if (st_not (st_truth (se_isinstance (by rfl) V.b_isinstance (sa_cons (se_name 0) (sa_cons (se_tup (sa_cons (se_ty .list (by rfl) V.b_list (by decide +kernel)) (sa_cons (se_ty .tuple (by rfl) V.b_tuple (by decide +kernel)) sa_nil))) sa_nil))))) (sb_one (ss_raise V.x_BadDeed hr hn rfl takes_body (by rfl) se_int)) sb_nil) (sb_cons (ss_set 1 false sc_deeds_text.nd (by rfl) (by first | exact Or.inl rfl | exact Or.inr rfl) (se_lst sa_nil)) (sb_cons (ss_for (passes_of rfl) rfl (si_en1 (by rfl) V.b_enumerate (se_name 0)) (sg_tup rfl (sgs_cons 2 true (sg_name 2 true sc_deeds_text.nd (by rfl) (by first | exact Or.inl rfl | exact Or.inr rfl)) (sgs_cons 3 true (sg_name 3 true sc_deeds_text.nd (by rfl) (by first | exact Or.inl rfl | exact Or.inr rfl)) sgs_nil))) (sb_cons (ss_set 4 true sc_deeds_text.nd (by rfl) (by first | exact Or.inl rfl | exact Or.inr rfl) (se_call D.plain_deed hr (Nat.le_refl _) takes_body (by rfl) (sas_v (se_name 3) sas_nil))) (sb_cons (ss_if (st_isN (se_name 4)) (sb_one (ss_raise V.x_BadDeed hr hn rfl takes_body (by rfl) (se_name 2))) sb_nil) (sb_one (ss_expr (se_append 1 (se_add (se_join se_str (se_lc true rfl (own := [(("word" : Str), 5)]) sc_deeds_text.nd (si_val (se_name 4)) (by kernel_rfl) (fun _ _ _ _ _ => (sg_name 5 true sc_deeds_text.nd (by rfl) (by first | exact Or.inl rfl | exact Or.inr rfl))) (fun _ _ _ _ _ => sts_nil) (fun _ _ _ _ _ => (se_str1 (by rfl) V.b_str (se_name 5))))) se_str))))))) (sb_one (ss_ret (se_join se_str (se_name 1)))))))
theorem sc_deed_of : FnScope N_deed_of ["line"] (defScope (top 15)) := ⟨rfl, rfl, rfl, by decide +kernel, rfl, by decide +kernel, by decide +kernel⟩
theorem df_deed_of (V : EnvL P w K mg base) (hn : 2 ≤ n) (D : Dfs P w K mg base n c) : Df P w K mg base (n + 1) "deed_of" 1 (b_deed_of c) := by
  obtain ⟨f, fd, hm, F, hb⟩ := V.d_deed_of
  refine ⟨f, fd, ["line"], hm, F.kp, rfl, hb, fn_ok (N := N_deed_of) (io := []) (m := m_deed_of c) F sc_deed_of (by decide) fun cdv A outer s H E hr => ?_⟩
  unfold m_deed_of
  exact (sb_one (ss_ret (se_call D.plain_deed hr (Nat.le_refl _) takes_body (by rfl) (sas_v (se_lc true rfl (own := [(("word" : Str), 1)]) sc_deed_of.nd (si_val (se_split (se_name 0) se_str)) (by kernel_rfl) (fun _ _ _ _ _ => (sg_name 1 true sc_deed_of.nd (by rfl) (by first | exact Or.inl rfl | exact Or.inr rfl))) (fun _ _ _ _ _ => sts_nil) (fun _ _ _ _ _ => (se_if (st_in (u65 hr) (se_name 1) (se_gv V.g_NUMBERS (by rfl))) (se_int1 (by rfl) V.b_int (se_name 1)) (se_name 1)))) sas_nil))))
theorem sc_lines_read : FnScope N_lines_read ["text"] (defScope (top 16)) := ⟨rfl, rfl, rfl, by decide +kernel, rfl, by decide +kernel, by decide +kernel⟩
theorem df_lines_read (V : EnvL P w K mg base) (hn : 2 ≤ n) (D : Dfs P w K mg base n c) : Df P w K mg base (n + 1) "lines_read" 1 (b_lines_read c) := by
  obtain ⟨f, fd, hm, F, hb⟩ := V.d_lines_read
  refine ⟨f, fd, ["text"], hm, F.kp, rfl, hb, fn_ok (N := N_lines_read) (io := []) (m := m_lines_read c) F sc_lines_read (by decide) fun cdv A outer s H E hr => ?_⟩
  unfold m_lines_read
  exact (sb_cons (ss_set 1 false sc_lines_read.nd (by rfl) (by first | exact Or.inl rfl | exact Or.inr rfl) (se_lst sa_nil)) (sb_cons (ss_if (st_not (st_truth (se_isinstance (by rfl) V.b_isinstance (sa_cons (se_name 0) (sa_cons (se_ty .str (by rfl) V.b_str (by decide +kernel)) sa_nil))))) (sb_one (ss_ret (se_tup (sa_cons (se_move 1) (sa_cons se_int sa_nil))))) sb_nil) (sb_cons (ss_set 2 true sc_lines_read.nd (by rfl) (by first | exact Or.inl rfl | exact Or.inr rfl) (se_split (se_name 0) se_str)) (sb_cons (ss_for (passes_of rfl) rfl (si_en2 (by rfl) V.b_enumerate (se_slice (se_name 2) sp_none (sp_some (se_neg se_int))) se_int) (sg_tup rfl (sgs_cons 3 true (sg_name 3 true sc_lines_read.nd (by rfl) (by first | exact Or.inl rfl | exact Or.inr rfl)) (sgs_cons 4 true (sg_name 4 true sc_lines_read.nd (by rfl) (by first | exact Or.inl rfl | exact Or.inr rfl)) sgs_nil))) (sb_cons (ss_set 5 true sc_lines_read.nd (by rfl) (by first | exact Or.inl rfl | exact Or.inr rfl) (se_call D.deed_of hr (Nat.le_refl _) takes_body (by rfl) (sas_v (se_name 4) sas_nil))) (sb_cons (ss_if (st_isN (se_name 5)) (sb_one (ss_ret (se_tup (sa_cons (se_move 1) (sa_cons (se_name 3) sa_nil))))) sb_nil) (sb_one (ss_expr (se_append 1 (se_name 5))))))) (sb_one (ss_ret (se_tup (sa_cons (se_move 1) (sa_cons (se_if (st_eq hr.units (se_ix (se_name 2) (se_neg se_int)) se_str) se_non (se_lenNm 2 (by rfl) V.b_len)) sa_nil)))))))))
theorem sc_deeds_fault : FnScope N_deeds_fault ["text"] (defScope (top 17)) := ⟨rfl, rfl, rfl, by decide +kernel, rfl, by decide +kernel, by decide +kernel⟩
theorem df_deeds_fault (V : EnvL P w K mg base) (hn : 2 ≤ n) (D : Dfs P w K mg base n c) : Df P w K mg base (n + 1) "deeds_fault" 1 (b_deeds_fault c) := by
  obtain ⟨f, fd, hm, F, hb⟩ := V.d_deeds_fault
  refine ⟨f, fd, ["text"], hm, F.kp, rfl, hb, fn_ok (N := N_deeds_fault) (io := []) (m := m_deeds_fault c) F sc_deeds_fault (by decide) fun cdv A outer s H E hr => ?_⟩
  unfold m_deeds_fault
  exact (sb_one (ss_ret (se_ix (se_call D.lines_read hr (Nat.le_refl _) takes_body (by rfl) (sas_v (se_name 0) sas_nil)) se_int)))
theorem sc_read_deeds : FnScope N_read_deeds ["text"] (defScope (top 18)) := ⟨rfl, rfl, rfl, by decide +kernel, rfl, by decide +kernel, by decide +kernel⟩
theorem df_read_deeds (V : EnvL P w K mg base) (hn : 2 ≤ n) (D : Dfs P w K mg base n c) : Df P w K mg base (n + 1) "read_deeds" 1 (b_read_deeds c) := by
  obtain ⟨f, fd, hm, F, hb⟩ := V.d_read_deeds
  refine ⟨f, fd, ["text"], hm, F.kp, rfl, hb, fn_ok (N := N_read_deeds) (io := []) (m := m_read_deeds c) F sc_read_deeds (by decide) fun cdv A outer s H E hr => ?_⟩
  unfold m_read_deeds
  exact (sb_cons (ss_asg (se_call D.lines_read hr (Nat.le_refl _) takes_body (by rfl) (sas_v (se_name 0) sas_nil)) (sg_tup rfl (sgs_cons 1 false (sg_name 1 false sc_read_deeds.nd (by rfl) (by first | exact Or.inl rfl | exact Or.inr rfl)) (sgs_cons 2 true (sg_name 2 true sc_read_deeds.nd (by rfl) (by first | exact Or.inl rfl | exact Or.inr rfl)) sgs_nil)))) (sb_cons (ss_if (st_notN (se_name 2)) (sb_one (ss_raise V.x_BadText hr hn rfl takes_body (by rfl) (se_name 2))) sb_nil) (sb_one (ss_ret (se_move 1)))))
theorem sc__law_mbent : FnScope N__law_mbent ["stream", "lines", "more"] (defScope (top 20)) := ⟨rfl, rfl, rfl, by decide +kernel, rfl, by decide +kernel, by decide +kernel⟩
theorem df__law_mbent (V : EnvL P w K mg base) (hn : 2 ≤ n) (D : Dfs P w K mg base n c) : Df P w K mg base (n + 1) "_law_mbent" 3 (b__law_mbent c) := by
  obtain ⟨f, fd, hm, F, hb⟩ := V.d__law_mbent
  refine ⟨f, fd, ["stream", "lines", "more"], hm, F.kp, rfl, hb, fn_ok (N := N__law_mbent) (io := [0]) (m := m__law_mbent c) F sc__law_mbent (by decide) fun cdv A outer s H E hr => ?_⟩
  unfold m__law_mbent
  exact (sb_cons (ss_par 3 4 true true rfl sc__law_mbent.nd (by rfl) (by rfl) (by decide) (by rfl) (by rfl) (sa_cons (se_call D._law_below hr (Nat.le_refl _) takes_body (by rfl) (sas_l 0 (sas_v (se_lenNm 1 (by rfl) V.b_len) sas_nil))) (sa_cons (se_call D._law_below hr (Nat.le_refl _) takes_body (by rfl) (sas_l 0 (sas_v se_int sas_nil))) sa_nil)) (by rfl)) (sb_cons (ss_set 5 true sc__law_mbent.nd (by rfl) (by first | exact Or.inl rfl | exact Or.inr rfl) (se_split (se_ix (se_name 1) (se_name 3)) se_str)) (sb_cons (ss_set 6 true sc__law_mbent.nd (by rfl) (by first | exact Or.inl rfl | exact Or.inr rfl) (se_call D._law_below hr (Nat.le_refl _) takes_body (by rfl) (sas_l 0 (sas_v (se_lenNm 5 (by rfl) V.b_len) sas_nil)))) (sb_cons (ss_if (st_eq hr.units (se_name 4) se_int) (sb_one (ss_set 5 true sc__law_mbent.nd (by rfl) (by first | exact Or.inl rfl | exact Or.inr rfl) (se_add (se_slice (se_name 5) sp_none (sp_some (se_name 6))) (se_slice (se_name 5) (sp_some (se_add (se_name 6) se_int)) sp_none)))) sb_nil) (sb_cons (ss_if (st_in (u65 hr) (se_name 4) (se_tup (sa_cons se_int (sa_cons se_int sa_nil)))) (sb_one (ss_set 5 true sc__law_mbent.nd (by rfl) (by first | exact Or.inl rfl | exact Or.inr rfl) (se_add (se_add (se_slice (se_name 5) sp_none (sp_some (se_name 6))) (se_lst (sa_cons (se_call D._law_pick hr (Nat.le_refl _) takes_body (by rfl) (sas_l 0 (sas_v (se_add (se_name 2) (se_name 5)) sas_nil))) sa_nil))) (se_slice (se_name 5) (sp_some (se_add (se_name 6) (se_int1 (by rfl) V.b_int (se_eq hr.units (se_name 4) se_int)))) sp_none)))) sb_nil) (sb_cons (ss_set 1 true sc__law_mbent.nd (by rfl) (by first | exact Or.inl rfl | exact Or.inr rfl) (se_add (se_add (se_slice (se_name 1) sp_none (sp_some (se_name 3))) (se_lst (sa_cons (se_join se_str (se_name 5)) sa_nil))) (se_slice (se_name 1) (sp_some (se_add (se_name 3) se_int)) sp_none))) (sb_cons (ss_if (st_eq hr.units (se_name 4) se_int) (sb_one (ss_set 1 true sc__law_mbent.nd (by rfl) (by first | exact Or.inl rfl | exact Or.inr rfl) (se_add (se_slice (se_name 1) sp_none (sp_some (se_name 3))) (se_slice (se_name 1) (sp_some (se_add (se_name 3) se_int)) sp_none)))) sb_nil) (sb_cons (ss_if (st_eq hr.units (se_name 4) se_int) (sb_one (ss_set 1 true sc__law_mbent.nd (by rfl) (by first | exact Or.inl rfl | exact Or.inr rfl) (se_add (se_slice (se_name 1) sp_none (sp_some (se_add (se_name 3) se_int))) (se_slice (se_name 1) (sp_some (se_name 3)) sp_none)))) sb_nil) (sb_cons (ss_if ((sw_and (st_eq hr.units (se_name 4) se_int) (sw_and1 (st_gt (se_name 3) se_int)))).st (sb_one (ss_set 1 true sc__law_mbent.nd (by rfl) (by first | exact Or.inl rfl | exact Or.inr rfl) (se_add (se_add (se_slice (se_name 1) sp_none (sp_some (se_sub (se_name 3) se_int))) (se_lst (sa_cons (se_ix (se_name 1) (se_name 3)) (sa_cons (se_ix (se_name 1) (se_sub (se_name 3) se_int)) sa_nil)))) (se_slice (se_name 1) (sp_some (se_add (se_name 3) se_int)) sp_none)))) sb_nil) (sb_cons (ss_if (st_eq hr.units (se_name 4) se_int) (sb_one (ss_set 1 true sc__law_mbent.nd (by rfl) (by first | exact Or.inl rfl | exact Or.inr rfl) (se_slice (se_name 1) sp_none (sp_some (se_name 3))))) sb_nil) (sb_cons (ss_set 7 true sc__law_mbent.nd (by rfl) (by first | exact Or.inl rfl | exact Or.inr rfl) (se_join se_str (se_lc true rfl (own := [(("line" : Str), 8)]) sc__law_mbent.nd (si_val (se_name 1)) (by kernel_rfl) (fun _ _ _ _ _ => (sg_name 8 true sc__law_mbent.nd (by rfl) (by first | exact Or.inl rfl | exact Or.inr rfl))) (fun _ _ _ _ _ => sts_nil) (fun _ _ _ _ _ => (se_add (se_name 8) se_str))))) (sb_cons (ss_if (st_eq hr.units (se_name 4) se_int) (sb_cons (ss_set 6 true sc__law_mbent.nd (by rfl) (by first | exact Or.inl rfl | exact Or.inr rfl) (se_call D._law_below hr (Nat.le_refl _) takes_body (by rfl) (sas_l 0 (sas_v (se_add (se_lenNm 7 (by rfl) V.b_len) se_int) sas_nil)))) (sb_one (ss_ret (se_add (se_add (se_slice (se_name 7) sp_none (sp_some (se_name 6))) (se_call D._law_pick hr (Nat.le_refl _) takes_body (by rfl) (sas_l 0 (sas_v (se_list1 rfl (by rfl) V.b_list se_str) sas_nil)))) (se_slice (se_name 7) (sp_some (se_add (se_name 6) (se_call D._law_below hr (Nat.le_refl _) takes_body (by rfl) (sas_l 0 (sas_v se_int sas_nil))))) sp_none))))) sb_nil) (sb_one (ss_ret (se_if ((sw_and (st_eq hr.units (se_name 4) se_int) (sw_and1 (st_ne hr.units (se_name 7) se_str)))).st (se_slice (se_name 7) sp_none (sp_some (se_sub (se_lenNm 7 (by rfl) V.b_len) se_int))) (se_name 7))))))))))))))))
theorem sc__law_mtext : FnScope N__law_mtext ["lines"] (defScope (top 21)) := ⟨rfl, rfl, rfl, by decide +kernel, rfl, by decide +kernel, by decide +kernel⟩
theorem df__law_mtext (V : EnvL P w K mg base) (hn : 2 ≤ n) (D : Dfs P w K mg base n c) : Df P w K mg base (n + 1) "_law_mtext" 1 (b__law_mtext c) := by
  obtain ⟨f, fd, hm, F, hb⟩ := V.d__law_mtext
  refine ⟨f, fd, ["lines"], hm, F.kp, rfl, hb, fn_ok (N := N__law_mtext) (io := []) (m := m__law_mtext c) F sc__law_mtext (by decide) fun cdv A outer s H E hr => ?_⟩
  unfold m__law_mtext
  exact (sb_one (ss_ret (se_join se_str (se_lc true rfl (own := [(("line" : Str), 1)]) sc__law_mtext.nd (si_val (se_name 0)) (by kernel_rfl) (fun _ _ _ _ _ => (sg_name 1 true sc__law_mtext.nd (by rfl) (by first | exact Or.inl rfl | exact Or.inr rfl))) (fun _ _ _ _ _ => sts_nil) (fun _ _ _ _ _ => (se_add (se_name 1) se_str))))))
theorem sc__law_below : FnScope N__law_below ["stream", "many"] (defScope (top 23)) := ⟨rfl, rfl, rfl, by decide +kernel, rfl, by decide +kernel, by decide +kernel⟩
theorem df__law_below (V : EnvL P w K mg base) (hn : 2 ≤ n) (D : Dfs P w K mg base n c) : Df P w K mg base (n + 1) "_law_below" 2 (b__law_below c) := by
  obtain ⟨f, fd, hm, F, hb⟩ := V.d__law_below
  refine ⟨f, fd, ["stream", "many"], hm, F.kp, rfl, hb, fn_ok (N := N__law_below) (io := [0]) (m := m__law_below c) F sc__law_below (by decide) fun cdv A outer s H E hr => ?_⟩
  unfold m__law_below
  exact (sb_cons (ss_asg (se_add (se_kid 0 2) se_int) (sg_put 0 2 true)) (sb_cons (ss_while 64 (passes_of rfl) ((sw_and (st_eq hr.units (se_kid 0 1) se_int) (sw_and1 (st_neNil 0 0 hr.units)))).st (sb_cons (ss_set 2 true sc__law_below.nd (by rfl) (by first | exact Or.inl rfl | exact Or.inr rfl) (se_kidPop 0 0)) (sb_cons (ss_asg (se_mod (se_int1 (by rfl) V.b_int (se_add (se_add (se_mul (se_kid 0 3) se_int) (se_name 2)) se_int)) se_int) (sg_put 0 3 true)) (sb_one (ss_asg (se_if (st_ge (se_name 2) (se_pow se_int se_int)) (se_name 2) se_int) (sg_put 0 1 true)))))) (sb_cons (ss_if (st_gt (se_kid 0 1) se_int) (sb_cons (ss_set 3 true sc__law_below.nd (by rfl) (by first | exact Or.inl rfl | exact Or.inr rfl) (se_mod (se_int1 (by rfl) V.b_int (se_kid 0 1)) (se_name 1))) (sb_cons (ss_asg (se_fdiv (se_kid 0 1) (se_name 1)) (sg_put 0 1 true)) (sb_one (ss_ret (se_name 3))))) sb_nil) (sb_cons (ss_set 4 true sc__law_below.nd (by rfl) (by first | exact Or.inl rfl | exact Or.inr rfl) (se_mod (se_int1 (by rfl) V.b_int (se_pow (se_add (se_add (se_kid 0 3) (se_mul se_int (se_kid 0 2))) se_int) se_int)) se_int)) (sb_one (ss_ret (se_mod (se_mod (se_int1 (by rfl) V.b_int (se_pow (se_add (se_add (se_mul (se_name 4) se_int) (se_mul se_int (se_kid 0 2))) se_int) se_int)) se_int) (se_name 1))))))))
theorem sc__law_pick : FnScope N__law_pick ["stream", "some"] (defScope (top 24)) := ⟨rfl, rfl, rfl, by decide +kernel, rfl, by decide +kernel, by decide +kernel⟩
theorem df__law_pick (V : EnvL P w K mg base) (hn : 2 ≤ n) (D : Dfs P w K mg base n c) : Df P w K mg base (n + 1) "_law_pick" 2 (b__law_pick c) := by
  obtain ⟨f, fd, hm, F, hb⟩ := V.d__law_pick
  refine ⟨f, fd, ["stream", "some"], hm, F.kp, rfl, hb, fn_ok (N := N__law_pick) (io := [0]) (m := m__law_pick c) F sc__law_pick (by decide) fun cdv A outer s H E hr => ?_⟩
  unfold m__law_pick
  exact (sb_one (ss_ret (se_ix (se_name 1) (se_call D._law_below hr (Nat.le_refl _) takes_body (by rfl) (sas_l 0 (sas_v (se_lenNm 1 (by rfl) V.b_len) sas_nil))))))
theorem sc__law_mixed : FnScope N__law_mixed ["stream", "some"] (defScope (top 25)) := ⟨rfl, rfl, rfl, by decide +kernel, rfl, by decide +kernel, by decide +kernel⟩
theorem df__law_mixed (V : EnvL P w K mg base) (hn : 2 ≤ n) (D : Dfs P w K mg base n c) : Df P w K mg base (n + 1) "_law_mixed" 2 (b__law_mixed c) := by
  obtain ⟨f, fd, hm, F, hb⟩ := V.d__law_mixed
  refine ⟨f, fd, ["stream", "some"], hm, F.kp, rfl, hb, fn_ok (N := N__law_mixed) (io := [0]) (m := m__law_mixed c) F sc__law_mixed (by decide) fun cdv A outer s H E hr => ?_⟩
  unfold m__law_mixed
  exact (sb_cons (ss_set 2 false sc__law_mixed.nd (by rfl) (by first | exact Or.inl rfl | exact Or.inr rfl) (se_list1 rfl (by rfl) V.b_list (se_name 1))) (sb_one (ss_ret (se_lc true rfl (own := [(("k" : Str), 3)]) sc__law_mixed.nd (si_range1 (by rfl) V.b_range (se_lenNm 2 (by rfl) V.b_len)) (by kernel_rfl) (fun _ _ _ _ _ => (sg_name 3 true sc__law_mixed.nd (by rfl) (by first | exact Or.inl rfl | exact Or.inr rfl))) (fun _ _ _ _ _ => sts_nil) (fun _ _ _ _ _ => (se_popAt 2 true (se_call D._law_below hr (Nat.le_refl _) L2.takes0 (by rfl) (sas_l 0 (sas_v (se_lenNm 2 (by rfl) V.b_len) sas_nil)))))))))
theorem sc__law_same : FnScope N__law_same ["found", "due"] (defScope (top 26)) := ⟨rfl, rfl, rfl, by decide +kernel, rfl, by decide +kernel, by decide +kernel⟩
theorem df__law_same (V : EnvL P w K mg base) (hn : 2 ≤ n) (D : Dfs P w K mg base n c) : Df P w K mg base (n + 1) "_law_same" 2 (b__law_same c) := by
  obtain ⟨f, fd, hm, F, hb⟩ := V.d__law_same
  refine ⟨f, fd, ["found", "due"], hm, F.kp, rfl, hb, fn_ok (N := N__law_same) (io := []) (m := m__law_same c) F sc__law_same (by decide) fun cdv A outer s H E hr => ?_⟩
  unfold m__law_same
  exact (sb_cons (ss_if (st_truth (se_isinstance (by rfl) V.b_isinstance (sa_cons (se_name 1) (sa_cons (se_tup (sa_cons (se_ty .list (by rfl) V.b_list (by decide +kernel)) (sa_cons (se_ty .tuple (by rfl) V.b_tuple (by decide +kernel)) sa_nil))) sa_nil)))) (sb_cons (ss_if ((sw_or (st_ne hr.units (se_isinstance (by rfl) V.b_isinstance (sa_cons (se_name 0) (sa_cons (se_ty .list (by rfl) V.b_list (by decide +kernel)) sa_nil))) (se_isinstance (by rfl) V.b_isinstance (sa_cons (se_name 1) (sa_cons (se_ty .list (by rfl) V.b_list (by decide +kernel)) sa_nil)))) (sw_or1 (st_ne hr.units (se_isinstance (by rfl) V.b_isinstance (sa_cons (se_name 0) (sa_cons (se_ty .tuple (by rfl) V.b_tuple (by decide +kernel)) sa_nil))) (se_isinstance (by rfl) V.b_isinstance (sa_cons (se_name 1) (sa_cons (se_ty .tuple (by rfl) V.b_tuple (by decide +kernel)) sa_nil))))))).st (sb_one (ss_ret se_bl)) sb_nil) (sb_one (ss_ret (se_and (se_eq hr.units (se_lenNm 0 (by rfl) V.b_len) (se_lenNm 1 (by rfl) V.b_len)) (se_and1 (se_all rfl (by rfl) V.b_all (se_lc true rfl (own := [(("x" : Str), 2), (("y" : Str), 3)]) sc__law_same.nd (si_zip (by rfl) V.b_zip (se_name 0) (se_name 1)) (by kernel_rfl) (fun _ _ _ _ _ => (sg_tup rfl (sgs_cons 2 true (sg_name 2 true sc__law_same.nd (by rfl) (by first | exact Or.inl rfl | exact Or.inr rfl)) (sgs_cons 3 true (sg_name 3 true sc__law_same.nd (by rfl) (by first | exact Or.inl rfl | exact Or.inr rfl)) sgs_nil)))) (fun _ _ _ _ _ => sts_nil) (fun _ _ _ _ _ => (se_call D._law_same hr (Nat.le_refl _) L2.takes0 (by rfl) (sas_v (se_name 2) (sas_v (se_name 3) sas_nil))))))))))) sb_nil) (sb_cons (ss_if (st_truth (se_isinstance (by rfl) V.b_isinstance (sa_cons (se_name 1) (sa_cons (se_ty .dict (by rfl) V.b_dict (by decide +kernel)) sa_nil)))) sb_dead sb_nil) (sb_cons (ss_if (st_truth (se_isinstance (by rfl) V.b_isinstance (sa_cons (se_name 1) (sa_cons (se_ty .int (by rfl) V.b_int (by decide +kernel)) sa_nil)))) (sb_one (ss_ret (se_and (se_isinstance (by rfl) V.b_isinstance (sa_cons (se_name 0) (sa_cons (se_ty .int (by rfl) V.b_int (by decide +kernel)) sa_nil))) (se_and (se_eq hr.units (se_isinstance (by rfl) V.b_isinstance (sa_cons (se_name 0) (sa_cons (se_ty .bool (by rfl) V.b_bool (by decide +kernel)) sa_nil))) (se_isinstance (by rfl) V.b_isinstance (sa_cons (se_name 1) (sa_cons (se_ty .bool (by rfl) V.b_bool (by decide +kernel)) sa_nil)))) (se_and1 (se_eq hr.units (se_name 0) (se_name 1))))))) sb_nil) (sb_cons (ss_if (st_isN (se_name 1)) (sb_one (ss_ret (se_isN (se_name 0)))) sb_nil) (sb_cons (ss_if (st_truth (se_isinstance (by rfl) V.b_isinstance (sa_cons (se_name 1) (sa_cons (se_ty .str (by rfl) V.b_str (by decide +kernel)) sa_nil)))) (sb_one (ss_ret (se_and (se_isinstance (by rfl) V.b_isinstance (sa_cons (se_name 0) (sa_cons (se_ty .str (by rfl) V.b_str (by decide +kernel)) sa_nil))) (se_and1 (se_eq hr.units (se_name 0) (se_name 1)))))) sb_nil) (sb_one (ss_ret (se_and (se_not (se_isinstance (by rfl) V.b_isinstance (sa_cons (se_name 0) (sa_cons (se_tup (sa_cons (se_ty .int (by rfl) V.b_int (by decide +kernel)) (sa_cons (se_ty .str (by rfl) V.b_str (by decide +kernel)) (sa_cons (se_ty .list (by rfl) V.b_list (by decide +kernel)) (sa_cons (se_ty .tuple (by rfl) V.b_tuple (by decide +kernel)) (sa_cons (se_ty .dict (by rfl) V.b_dict (by decide +kernel)) sa_nil)))))) sa_nil)))) (se_and1 (se_eq hr.units (se_name 0) (se_name 1)))))))))))
theorem sc__law_loose : FnScope N__law_loose ["stream", "thing"] (defScope (top 27)) := ⟨rfl, rfl, rfl, by decide +kernel, rfl, by decide +kernel, by decide +kernel⟩
theorem df__law_loose (V : EnvL P w K mg base) (hn : 2 ≤ n) (D : Dfs P w K mg base n c) : Df P w K mg base (n + 1) "_law_loose" 2 (b__law_loose c) := by
  obtain ⟨f, fd, hm, F, hb⟩ := V.d__law_loose
  refine ⟨f, fd, ["stream", "thing"], hm, F.kp, rfl, hb, fn_ok (N := N__law_loose) (io := [0]) (m := m__law_loose c) F sc__law_loose (by decide) fun cdv A outer s H E hr => ?_⟩
  unfold m__law_loose
  exact (sb_cons (ss_if (st_truth (se_isinstance (by rfl) V.b_isinstance (sa_cons (se_name 1) (sa_cons (se_ty .dict (by rfl) V.b_dict (by decide +kernel)) sa_nil)))) sb_dead sb_nil) (sb_cons (ss_if (st_not (st_truth (se_isinstance (by rfl) V.b_isinstance (sa_cons (se_name 1) (sa_cons (se_tup (sa_cons (se_ty .list (by rfl) V.b_list (by decide +kernel)) (sa_cons (se_ty .tuple (by rfl) V.b_tuple (by decide +kernel)) sa_nil))) sa_nil))))) (sb_one (ss_ret (se_name 1))) sb_nil) (sb_cons (ss_setLc true true rfl sc__law_loose.nd (by rfl) (by rfl) (by rfl) (own := [(("part" : Str), 4)]) (si_val (se_name 1)) (by kernel_rfl) (fun _ _ _ _ _ => (sg_name 4 true sc__law_loose.nd (by rfl) (by first | exact Or.inl rfl | exact Or.inr rfl))) (fun _ _ _ _ _ => sts_nil) (fun _ _ _ _ _ => (se_call D._law_loose hr (Nat.le_refl _) L2.takes0 (by rfl) (sas_l 0 (sas_v (se_name 4) sas_nil))))) (sb_one (ss_ret (se_if (st_eq hr.units (se_call D._law_below hr (Nat.le_refl _) takes_body (by rfl) (sas_l 0 (sas_v se_int sas_nil))) se_int) (se_name 3) (se_tuple1 (by rfl) V.b_tuple (se_name 3))))))))
theorem sc__law_spoilt : FnScope N__law_spoilt ["thing"] (defScope (top 28)) := ⟨rfl, rfl, rfl, by decide +kernel, rfl, by decide +kernel, by decide +kernel⟩
theorem df__law_spoilt (V : EnvL P w K mg base) (hn : 2 ≤ n) (D : Dfs P w K mg base n c) : Df P w K mg base (n + 1) "_law_spoilt" 1 (b__law_spoilt c) := by
  obtain ⟨f, fd, hm, F, hb⟩ := V.d__law_spoilt
  refine ⟨f, fd, ["thing"], hm, F.kp, rfl, hb, fn_ok (N := N__law_spoilt) (io := [0]) (m := m__law_spoilt c) F sc__law_spoilt (by decide) fun cdv A outer s H E hr => ?_⟩
  unfold m__law_spoilt
  exact (sb_cons (ss_if (st_truth (se_isiNm 0 (by rfl) V.b_isinstance (se_ty .dict (by rfl) V.b_dict (by decide +kernel)))) sb_dead sb_nil) (sb_cons (ss_if (st_truth (se_isiNm 0 (by rfl) V.b_isinstance (se_tup (sa_cons (se_ty .list (by rfl) V.b_list (by decide +kernel)) (sa_cons (se_ty .tuple (by rfl) V.b_tuple (by decide +kernel)) sa_nil))))) (sb_one (ss_forO 0 2 (passes_of rfl) rfl (ss_for (passes_of rfl) rfl (si_val (se_name 0)) (sg_name 2 false sc__law_spoilt.nd (by rfl) (by first | exact Or.inl rfl | exact Or.inr rfl)) (SB.less (io' := [0, 2, 0]) (sb_one (ss_expr (se_call D._law_spoilt hr (Nat.le_refl _) takes_body (by rfl) (sas_l 2 sas_nil)))) (by decide))) (sb_one (ss_expr (se_call D._law_spoilt hr (Nat.le_refl _) takes_body (by rfl) (sas_l 2 sas_nil)))) sc__law_spoilt.nd (by rfl) (by rfl) (by first | exact Or.inl rfl | exact Or.inr rfl) (by decide) (by decide))) sb_nil) (sb_one (ss_if (st_truth (se_isiNm 0 (by rfl) V.b_isinstance (se_ty .list (by rfl) V.b_list (by decide +kernel)))) (sb_one (ss_expr (se_append 0 se_str))) sb_nil))))
theorem sc__law_is_once : FnScope N__law_is_once ["thing"] (defScope (top 29)) := ⟨rfl, rfl, rfl, by decide +kernel, rfl, by decide +kernel, by decide +kernel⟩
theorem df__law_is_once (V : EnvL P w K mg base) (hn : 2 ≤ n) (D : Dfs P w K mg base n c) : Df P w K mg base (n + 1) "_law_is_once" 1 (b__law_is_once c) := by
  obtain ⟨f, fd, hm, F, hb⟩ := V.d__law_is_once
  refine ⟨f, fd, ["thing"], hm, F.kp, rfl, hb, fn_ok (N := N__law_is_once) (io := []) (m := m__law_is_once c) F sc__law_is_once (by decide) fun cdv A outer s H E hr => ?_⟩
  unfold m__law_is_once
  exact (sb_cons (ss_if (st_truth (se_isinstance (by rfl) V.b_isinstance (sa_cons (se_name 0) (sa_cons (se_ty .dict (by rfl) V.b_dict (by decide +kernel)) sa_nil)))) sb_dead sb_nil) (sb_cons (ss_if (st_truth (se_isinstance (by rfl) V.b_isinstance (sa_cons (se_name 0) (sa_cons (se_tup (sa_cons (se_ty .list (by rfl) V.b_list (by decide +kernel)) (sa_cons (se_ty .tuple (by rfl) V.b_tuple (by decide +kernel)) sa_nil))) sa_nil)))) (sb_cons (ss_set 2 true sc__law_is_once.nd (by rfl) (by first | exact Or.inl rfl | exact Or.inr rfl) (se_int1 (by rfl) V.b_int (se_isinstance (by rfl) V.b_isinstance (sa_cons (se_name 0) (sa_cons (se_ty .list (by rfl) V.b_list (by decide +kernel)) sa_nil))))) (sb_one (ss_ret (se_and (se_eq hr.units (se_count (u65 hr) (se_list1 rfl (by rfl) V.b_list (se_name 0)) se_str) (se_name 2)) (se_and1 (se_all rfl (by rfl) V.b_all (se_lc true rfl (own := [(("part" : Str), 3)]) sc__law_is_once.nd (si_val (se_name 0)) (by kernel_rfl) (fun _ _ _ _ _ => (sg_name 3 true sc__law_is_once.nd (by rfl) (by first | exact Or.inl rfl | exact Or.inr rfl))) (fun _ _ _ _ _ => sts_nil) (fun _ _ _ _ _ => (se_call D._law_is_once hr (Nat.le_refl _) L2.takes0 (by rfl) (sas_v (se_name 3) sas_nil)))))))))) sb_nil) (sb_one (ss_ret se_bl))))
theorem sc__law_apart : FnScope N__law_apart ["thing"] (defScope (top 30)) := ⟨rfl, rfl, rfl, by decide +kernel, rfl, by decide +kernel, by decide +kernel⟩
theorem df__law_apart (V : EnvL P w K mg base) (hn : 2 ≤ n) (D : Dfs P w K mg base n c) : Df P w K mg base (n + 1) "_law_apart" 1 (b__law_apart c) := by
  obtain ⟨f, fd, hm, F, hb⟩ := V.d__law_apart
  refine ⟨f, fd, ["thing"], hm, F.kp, rfl, hb, fn_ok (N := N__law_apart) (io := []) (m := m__law_apart c) F sc__law_apart (by decide) fun cdv A outer s H E hr => ?_⟩
  unfold m__law_apart
  exact (sb_cons (ss_expr (se_call D._law_spoilt hr (Nat.le_refl _) takes_body (by rfl) (sas_l 0 sas_nil))) (sb_one (ss_ret (se_call D._law_is_once hr (Nat.le_refl _) takes_body (by rfl) (sas_v (se_name 0) sas_nil)))))
theorem sc__law_mread : FnScope N__law_mread ["line"] (defScope (top 31)) := ⟨rfl, rfl, rfl, by decide +kernel, rfl, by decide +kernel, by decide +kernel⟩
theorem df__law_mread (V : EnvL P w K mg base) (hn : 2 ≤ n) (D : Dfs P w K mg base n c) : Df P w K mg base (n + 1) "_law_mread" 1 (b__law_mread c) := by
  obtain ⟨f, fd, hm, F, hb⟩ := V.d__law_mread
  refine ⟨f, fd, ["line"], hm, F.kp, rfl, hb, fn_ok (N := N__law_mread) (io := []) (m := m__law_mread c) F sc__law_mread (by decide) fun cdv A outer s H E hr => ?_⟩
  unfold m__law_mread
  exact (sb_cons (ss_set 1 true sc__law_mread.nd (by rfl) (by first | exact Or.inl rfl | exact Or.inr rfl) (se_split (se_name 0) se_str)) (sb_cons (ss_if (st_eq hr.units (se_name 1) (se_lst (sa_cons se_str sa_nil))) (sb_one (ss_ret (se_tup (sa_cons se_str sa_nil)))) sb_nil) (sb_cons (ss_if ((sw_and (st_eq hr.units (se_ix (se_name 1) se_int) se_str) (sw_and (st_eq hr.units (se_lenNm 1 (by rfl) V.b_len) se_int) (sw_and (st_eq hr.units (se_len (by rfl) V.b_len (se_ix (se_name 1) se_int)) se_int) (sw_and1 (st_in (u65 hr) (se_ix (se_name 1) se_int) se_str)))))).st (sb_one (ss_ret (se_tup (sa_cons se_str (sa_cons (se_int1 (by rfl) V.b_int (se_ix (se_name 1) se_int)) sa_nil))))) sb_nil) (sb_cons (ss_if ((sw_or (st_ne hr.units (se_ix (se_name 1) se_int) se_str) (sw_or (st_ne hr.units (se_lenNm 1 (by rfl) V.b_len) se_int) (sw_or (st_ne hr.units (se_len (by rfl) V.b_len (se_ix (se_name 1) se_int)) se_int) (sw_or1 (st_notIn (u65 hr) (se_ix (se_name 1) se_int) se_str)))))).st (sb_one (ss_ret se_non)) sb_nil) (sb_one (ss_ret (se_if ((sw_and (st_eq hr.units (se_len (by rfl) V.b_len (se_ix (se_name 1) se_int)) se_int) (sw_and1 (st_in (u65 hr) (se_ix (se_name 1) se_int) se_str)))).st (se_tup (sa_cons se_str (sa_cons (se_ix (se_name 1) se_int) (sa_cons (se_int1 (by rfl) V.b_int (se_ix (se_name 1) se_int)) sa_nil)))) se_non)))))))
theorem sc__law_mform : FnScope N__law_mform ["stream"] (defScope (top 32)) := ⟨rfl, rfl, rfl, by decide +kernel, rfl, by decide +kernel, by decide +kernel⟩
theorem df__law_mform (V : EnvL P w K mg base) (hn : 2 ≤ n) (D : Dfs P w K mg base n c) : Df P w K mg base (n + 1) "_law_mform" 1 (b__law_mform c) := by
  obtain ⟨f, fd, hm, F, hb⟩ := V.d__law_mform
  refine ⟨f, fd, ["stream"], hm, F.kp, rfl, hb, fn_ok (N := N__law_mform) (io := [0]) (m := m__law_mform c) F sc__law_mform (by decide) fun cdv A outer s H E hr => ?_⟩
  unfold m__law_mform
  exact (sb_cons (ss_set 1 true sc__law_mform.nd (by rfl) (by first | exact Or.inl rfl | exact Or.inr rfl) (se_call D._law_pick hr (Nat.le_refl _) takes_body (by rfl) (sas_l 0 (sas_v (se_list1 rfl (by rfl) V.b_list se_str) sas_nil)))) (sb_one (ss_ret (se_call D._law_pick hr (Nat.le_refl _) takes_body (by rfl) (sas_l 0 (sas_v (se_lst (sa_cons (se_tup (sa_cons se_str (sa_cons (se_name 1) (sa_cons (se_call D._law_below hr (Nat.le_refl _) takes_body (by rfl) (sas_l 0 (sas_v se_int sas_nil))) sa_nil)))) (sa_cons (se_tup (sa_cons se_str (sa_cons (se_name 1) (sa_cons se_int sa_nil)))) (sa_cons (se_tup (sa_cons se_str (sa_cons (se_call D._law_below hr (Nat.le_refl _) takes_body (by rfl) (sas_l 0 (sas_v se_int sas_nil))) sa_nil))) (sa_cons (se_tup (sa_cons se_str sa_nil)) sa_nil))))) sas_nil))))))
theorem sc_law : FnScope N_law ["script"] (defScope (top 34)) := ⟨rfl, rfl, rfl, by decide +kernel, rfl, by decide +kernel, by decide +kernel⟩
theorem df_no {x : Str} {st : Stmt} {N ps : List Str} {k : Nat} (h : ∃ f fd, mg x = some (.ref f) ∧ FnP K x st f fd ∧ Binds K fd ps []) (S : FnScope N ps (defScope st)) : Df P w K mg base (k + 1) x ps.length (fun _ => .no) := by
  obtain ⟨f, fd, hm, F, hb⟩ := h
  exact ⟨f, fd, ps, hm, F.kp, rfl, hb, F.ok S (fun vs H Q E h => let ⟨_, _, _, _, _, z⟩ := h; z.elim) fun cdv A outer s H vs Q E hr h => let ⟨_, _, _, _, _, z⟩ := h; z.elim⟩
theorem dfs_all (V : EnvL P w K mg base) : ∀ n, Dfs P w K mg base (n + 2) (cs n)
  | 0 => ⟨df_no V.d_is_number sc_is_number, df_no V.d_is_letter sc_is_letter, df_no V.d_is_deed sc_is_deed, df_no V.d_plain_deed sc_plain_deed, df_no V.d_deeds_text sc_deeds_text, df_no V.d_deed_of sc_deed_of, df_no V.d_lines_read sc_lines_read, df_no V.d_deeds_fault sc_deeds_fault, df_no V.d_read_deeds sc_read_deeds, df_no V.d__law_mbent sc__law_mbent, df_no V.d__law_mtext sc__law_mtext, df_no V.d__law_below sc__law_below, df_no V.d__law_pick sc__law_pick, df_no V.d__law_mixed sc__law_mixed, df_no V.d__law_same sc__law_same, df_no V.d__law_loose sc__law_loose, df_no V.d__law_spoilt sc__law_spoilt, df_no V.d__law_is_once sc__law_is_once, df_no V.d__law_apart sc__law_apart, df_no V.d__law_mread sc__law_mread, df_no V.d__law_mform sc__law_mform⟩
  | n + 1 => have D := dfs_all V n; ⟨df_is_number V (by omega) D, df_is_letter V (by omega) D, df_is_deed V (by omega) D, df_plain_deed V (by omega) D, df_deeds_text V (by omega) D, df_deed_of V (by omega) D, df_lines_read V (by omega) D, df_deeds_fault V (by omega) D, df_read_deeds V (by omega) D, df__law_mbent V (by omega) D, df__law_mtext V (by omega) D, df__law_below V (by omega) D, df__law_pick V (by omega) D, df__law_mixed V (by omega) D, df__law_same V (by omega) D, df__law_loose V (by omega) D, df__law_spoilt V (by omega) D, df__law_is_once V (by omega) D, df__law_apart V (by omega) D, df__law_mread V (by omega) D, df__law_mform V (by omega) D⟩
end
end L80

set_option Elab.async false
set_option linter.all false
set_option maxRecDepth 100000
set_option maxHeartbeats 4000000
namespace L80
open PySem PySem.Spec PyProof.Rows L2 Ow
abbrev cla1 (C : Addr) : Cla := ⟨"BadText", C, "line", "text"⟩
abbrev cla2 (C : Addr) : Cla := ⟨"BadDeed", C, "index", "deed"⟩
structure EnvM (K : PySem.W.Frag) (mg : Str → Option Value) (base : Heap) : Prop where
  lawF : ∃ fd, mg ("law" : Str) = some (.ref (He.fAd K ("law", none))) ∧ FnP K "law" (top 34) (He.fAd K ("law", none)) fd
  startF : ∃ f fd, mg ("_law_start" : Str) = some (.ref f) ∧ FnP K "_law_start" (top 22) f fd ∧ Binds K fd ["script"] []
  wordsF : ∃ g fd, mg ("_law_mwords" : Str) = some (.ref g) ∧ FnP K "_law_mwords" (top 33) g fd ∧ Binds K fd ["call"] []
  cla : ∃ C1 C2, ClaF K mg (defScope (top 33)) (cla1 C1) ∧ ClaF K mg (defScope (top 33)) (cla2 C2) ∧ ClaOk K [cla1 C1, cla2 C2]
  tb : LamX.TabB base mg (He.cT K ("law", none)).1 (tabK K)
section
variable {P : Program} {w : World} {K : PySem.W.Frag} {mg : Str → Option Value} {base : Heap} {n : Nat} {c : Cs}
theorem sc_words : FnScope ["call", "e"] ["call"] (defScope (top 33)) := ⟨rfl, rfl, rfl, by decide +kernel, rfl, by decide +kernel, by decide +kernel⟩
theorem sc_start : FnScope ["script"] ["script"] (defScope (top 22)) := ⟨rfl, rfl, rfl, by decide +kernel, rfl, by decide +kernel, by decide +kernel⟩
abbrev cxL (P : Program) (w : World) (K : PySem.W.Frag) (mg : Str → Option Value) (base : Heap) (A : Around) (outer : List Env) (s : Shared) (H : Hp) (E : XK) : Cx := cxB P w K mg base N_law "law" (defScope (top 34)) (He.fAd K ("law", none)) (.ref (He.cT K ("law", none)).1) A outer s H E
theorem se_mw (EM : EnvM K mg base) {A : Around} {outer : List Env} {s : Shared} {H : Hp} {E : XK} {params : Arguments} {body : Expr} {scope : Scope} {m : Ow.M O} {p lpos pos : Pos} (hr : Room (n + 2) (cxL P w K mg base A outer s H E).A) (L : LamX.LamS (defScope (top 34)) scope) (hdef : defaultsOf params (cxL P w K mg base A outer s H E).env = ([], []))
    (hbind : ∀ (q : Str) (cl : List (Str × Addr)) (pm cv ctv : Value), bindArgs (PySem.W.kla_fn "<lambda>" q params body scope cl pm cv ctv) ⟨[], []⟩ = pure [])
    (hbody : ∀ (A' : Around) (outer' : List Env) (s' : Shared) (H' : Hp) (E' : XK) (f' c' : Addr), Room n (A'.deeper (LamX.lamEnv (cxL P w K mg base A outer s H E) scope s'.heap.objs.size f' c')) → SE (LamX.lamCx (cxL P w K mg base A outer s H E) A' outer' s' H' E' scope f' c') (WE E') body m) :
    SE (cxL P w K mg base A outer s H E) (WE E) (.Call (.Name "_law_mwords" p) [.Lambda params body scope lpos] [] pos) (mWords 18 lamQ clas "told" m) := by
  obtain ⟨g, fd, hm, F, hb⟩ := EM.wordsF
  obtain ⟨C1, C2, k1, k2, ok⟩ := EM.cla
  have hl : Len m := (hbody (cxL P w K mg base A outer s H E).A outer s H E 0 0 (Room.deeper (hr.mono (j := n + 1) (by omega)) _)).len
  obtain ⟨oc, od, dV, kV, doc, pm, an, cdv, ct, osl, rfl, lk, hcd, _, _⟩ := F.ex
  exact se_words (X := cxL P w K mg base A outer s H E) (n := "e") (cs := [cla1 C1, cla2 C2]) 18 (show 18 < N_law.length by decide) rfl hm F.kp lk hcd hb sc_words (.inl rfl) (.cons (.cons .nil)) (fun c hc => by
    rcases List.mem_cons.mp hc with z | z
    · rw [z]; exact k1
    · rw [List.mem_singleton.mp z]; exact k2) ok rfl (by decide) (by decide) EM.tb rfl hr (Nat.le_refl _) L hdef hbind hbody hl
theorem ok_law80 (V : EnvL P w K mg base) (EM : EnvM K mg base) (D : Dfs P w K mg base n c) (hm : ∀ ns : List Int, ns.length ≤ 63 → ∃ e', m_law c (lawE 19 18 lamQ ns) = .ok (.rt (.sh (.bl true))) e') :
    ∃ fd, mg ("law" : Str) = some (.ref (He.fAd K ("law", none))) ∧ FnP K "law" (top 34) (He.fAd K ("law", none)) fd ∧ FnOk P w K mg base (L2.CX P w) (n + 3) (He.fAd K ("law", none)) fd ["script"] (spLaw K) := by
  obtain ⟨fd, hml, F⟩ := EM.lawF
  obtain ⟨fS, fdS, hmS, FS, hbS⟩ := EM.startF
  refine ⟨fd, hml, F, ?_⟩
  refine ok_law (P := P) (w := w) (N := N_law) (gi := 18) (q := lamQ) (k := n + 2) (m := m_law c) F sc_law rfl (by first | exact Or.inl rfl | exact Or.inr rfl) (by decide) (by decide) (fun x hx => ?_) rfl hmS FS.kp hbS (fun ns => ok_start FS sc_start rfl V.b_list) (by omega) (fun _ _ _ _ _ _ => rfl) rfl (fun A outer s H E hr => ?_) hm
  · have e : x = "<tab>" := by
      have : some x = some ("<tab>" : Str) := hx.symm
      exact Option.some.inj this
    subst e
    rintro (z | z | z) <;> revert z <;> decide +kernel
  · unfold m_law
    exact
(sb_cons (ss_for (passes_of rfl) rfl (si_range1 (by rfl) V.b_range se_int) (sg_name 2 true sc_law.nd (by rfl) (by first | exact Or.inl rfl | exact Or.inr rfl)) (sb_cons (ss_set 3 true sc_law.nd (by rfl) (by first | exact Or.inl rfl | exact Or.inr rfl) (se_lc true rfl (own := [(("again" : Str), 4)]) sc_law.nd (si_range1 (by rfl) V.b_range (se_add se_int (se_call D._law_below hr (Nat.le_add_right _ _) takes_body (by rfl) (sas_l 1 (sas_v se_int sas_nil))))) (by kernel_rfl) (fun _ _ _ _ _ => (sg_name 4 true sc_law.nd (by rfl) (by first | exact Or.inl rfl | exact Or.inr rfl))) (fun _ _ _ _ _ => sts_nil) (fun _ _ _ _ _ => (se_call D._law_mform hr (Nat.le_add_right _ _) L2.takes0 (by rfl) (sas_l 1 sas_nil))))) (sb_cons (ss_setLc true true rfl sc_law.nd (by rfl) (by rfl) (by rfl) (own := [(("deed" : Str), 7)]) (si_val (se_name 3)) (by kernel_rfl) (fun _ _ _ _ _ => (sg_name 7 true sc_law.nd (by rfl) (by first | exact Or.inl rfl | exact Or.inr rfl))) (fun _ _ _ _ _ => sts_nil) (fun _ _ _ _ _ => (se_join se_str (se_lc true rfl (own := [(("word" : Str), 6)]) sc_law.nd (si_val (se_name 7)) (by kernel_rfl) (fun _ _ _ _ _ => (sg_name 6 true sc_law.nd (by rfl) (by first | exact Or.inl rfl | exact Or.inr rfl))) (fun _ _ _ _ _ => sts_nil) (fun _ _ _ _ _ => (se_str1 (by rfl) V.b_str (se_name 6))))))) (sb_cons (ss_set 8 true sc_law.nd (by rfl) (by first | exact Or.inl rfl | exact Or.inr rfl) (se_call D._law_mtext hr (Nat.le_add_right _ _) takes_body (by rfl) (sas_v (se_name 5) sas_nil))) (sb_cons (ss_set 9 false sc_law.nd (by rfl) (by first | exact Or.inl rfl | exact Or.inr rfl) (se_lst (sa_cons (se_mw EM hr (LamX.lamS_by (by decide +kernel)) (by rfl) (fun _ _ _ _ _ => rfl) (fun _ _ _ _ _ _ _ hr => (se_call D.deeds_text hr (Nat.le_refl _) takes_lam (by rfl) (sas_v (se_call D._law_loose hr (Nat.le_refl _) takes_lam (by rfl) (sas_l 1 (sas_v (se_name 3) sas_nil))) sas_nil)))) sa_nil))) (sb_cons (ss_expr (se_append 9 (se_mw EM hr (LamX.lamS_by (by decide +kernel)) (by rfl) (fun _ _ _ _ _ => rfl) (fun _ _ _ _ _ _ _ hr => (se_call D.read_deeds hr (Nat.le_refl _) takes_lam (by rfl) (sas_v (se_name 8) sas_nil)))))) (sb_cons (ss_if ((sw_or (st_not (st_truth (se_callP D._law_same hr (Nat.le_add_right _ _) takes_body (by rfl) (sas_l 9 (sas_v (se_lst (sa_cons (se_tup (sa_cons se_str (sa_cons (se_name 8) sa_nil))) (sa_cons (se_tup (sa_cons se_str (sa_cons (se_name 3) sa_nil))) sa_nil))) sas_nil))))) (sw_or1 (st_notN (se_call D.deeds_fault hr (Nat.le_add_right _ _) takes_body (by rfl) (sas_v (se_name 8) sas_nil)))))).st (sb_one (ss_ret se_bl)) sb_nil) (sb_cons (ss_if ((sw_or (st_not (st_truth (se_call D._law_apart hr (Nat.le_add_right _ _) takes_body (by rfl) (sas_w (se_lst (sa_cons (se_take 9 1 1) sa_nil)) sas_nil)))) (sw_or1 (st_not (st_truth (se_call D._law_same hr (Nat.le_add_right _ _) takes_body (by rfl) (sas_v (se_call D.read_deeds hr (Nat.le_add_right _ _) takes_body (by rfl) (sas_v (se_name 8) sas_nil)) (sas_v (se_name 3) sas_nil)))))))).st (sb_one (ss_ret se_bl)) sb_nil) (sb_cons (ss_for (passes_of rfl) rfl (si_range1 (by rfl) V.b_range se_int) (sg_name 4 true sc_law.nd (by rfl) (by first | exact Or.inl rfl | exact Or.inr rfl)) (sb_cons (ss_set 10 true sc_law.nd (by rfl) (by first | exact Or.inl rfl | exact Or.inr rfl) (se_call D._law_mbent hr (Nat.le_add_right _ _) takes_body (by rfl) (sas_l 1 (sas_v (se_name 5) (sas_v (se_lst (sa_cons se_str (sa_cons se_str (sa_cons se_str (sa_cons se_str (sa_cons se_str (sa_cons se_str (sa_cons se_str (sa_cons se_str (sa_cons se_str (sa_cons se_str (sa_cons se_str (sa_cons se_str (sa_cons se_str (sa_cons se_str sa_nil))))))))))))))) sas_nil))))) (sb_cons (ss_set 11 true sc_law.nd (by rfl) (by first | exact Or.inl rfl | exact Or.inr rfl) (se_split (se_name 10) se_str)) (sb_cons (ss_setLc true true rfl sc_law.nd (by rfl) (by rfl) (by rfl) (own := [(("at" : Str), 13), (("line" : Str), 14)]) (si_en1 (by rfl) V.b_enumerate (se_slice (se_name 11) sp_none (sp_some (se_neg se_int)))) (by kernel_rfl) (fun _ _ _ _ _ => (sg_tup rfl (sgs_cons 13 true (sg_name 13 true sc_law.nd (by rfl) (by first | exact Or.inl rfl | exact Or.inr rfl)) (sgs_cons 14 true (sg_name 14 true sc_law.nd (by rfl) (by first | exact Or.inl rfl | exact Or.inr rfl)) sgs_nil)))) (fun _ _ _ _ _ => (sts_one (st_isN (se_call D._law_mread hr (Nat.le_add_right _ _) L2.takes0 (by rfl) (sas_v (se_name 14) sas_nil))))) (fun _ _ _ _ _ => (se_add (se_name 13) se_int))) (sb_cons (ss_set 15 true sc_law.nd (by rfl) (by first | exact Or.inl rfl | exact Or.inr rfl) (se_ix (se_add (se_add (se_name 12) (se_if (st_ne hr.units (se_ix (se_name 11) (se_neg se_int)) se_str) (se_lst (sa_cons (se_lenNm 11 (by rfl) V.b_len) sa_nil)) (se_lst sa_nil))) (se_lst (sa_cons se_non sa_nil))) se_int)) (sb_cons (ss_if (st_not (st_truth (se_call D._law_same hr (Nat.le_add_right _ _) takes_body (by rfl) (sas_v (se_call D.deeds_fault hr (Nat.le_add_right _ _) takes_body (by rfl) (sas_v (se_name 10) sas_nil)) (sas_v (se_name 15) sas_nil))))) (sb_one (ss_ret se_bl)) sb_nil) (sb_cons (ss_set 9 false sc_law.nd (by rfl) (by first | exact Or.inl rfl | exact Or.inr rfl) (se_mw EM hr (LamX.lamS_by (by decide +kernel)) (by rfl) (fun _ _ _ _ _ => rfl) (fun _ _ _ _ _ _ _ hr => (se_call D.read_deeds hr (Nat.le_refl _) takes_lam (by rfl) (sas_v (se_name 10) sas_nil))))) (sb_one (ss_if (st_not (st_truth (se_callP D._law_same hr (Nat.le_add_right _ _) takes_body (by rfl) (sas_l 9 (sas_v (se_if (st_notN (se_name 15)) (se_tup (sa_cons se_str (sa_cons (se_name 15) sa_nil))) (se_tup (sa_cons se_str (sa_cons (se_lc true rfl (own := [(("line" : Str), 14)]) sc_law.nd (si_val (se_slice (se_name 11) sp_none (sp_some (se_neg se_int)))) (by kernel_rfl) (fun _ _ _ _ _ => (sg_name 14 true sc_law.nd (by rfl) (by first | exact Or.inl rfl | exact Or.inr rfl))) (fun _ _ _ _ _ => sts_nil) (fun _ _ _ _ _ => (se_call D._law_mread hr (Nat.le_add_right _ _) L2.takes0 (by rfl) (sas_v (se_name 14) sas_nil)))) sa_nil)))) sas_nil))))) (sb_one (ss_ret se_bl)) sb_nil))))))))) (sb_cons (ss_for (passes_of rfl) rfl (si_val (se_lst (sa_cons se_non (sa_cons se_int (sa_cons (se_tup (sa_cons se_str sa_nil)) (sa_cons (se_tup (sa_cons se_str sa_nil)) (sa_cons (se_tup (sa_cons se_str (sa_cons se_int sa_nil))) (sa_cons (se_tup (sa_cons se_str (sa_cons se_bl sa_nil))) (sa_cons (se_tup (sa_cons se_str (sa_cons se_str (sa_cons se_int sa_nil)))) (sa_cons (se_tup (sa_cons se_str (sa_cons se_str (sa_cons se_int sa_nil)))) (sa_cons (se_tup (sa_cons se_str (sa_cons se_str sa_nil))) (sa_cons (se_tup (sa_cons se_str (sa_cons se_int sa_nil))) (sa_cons (se_tup (sa_cons se_str (sa_cons se_str (sa_cons se_int sa_nil)))) sa_nil))))))))))))) (sg_name 16 true sc_law.nd (by rfl) (by first | exact Or.inl rfl | exact Or.inr rfl)) (sb_cons (ss_set 13 true sc_law.nd (by rfl) (by first | exact Or.inl rfl | exact Or.inr rfl) (se_call D._law_below hr (Nat.le_add_right _ _) takes_body (by rfl) (sas_l 1 (sas_v (se_add (se_lenNm 3 (by rfl) V.b_len) se_int) sas_nil)))) (sb_one (ss_if (st_not (st_truth (se_call D._law_same hr (Nat.le_add_right _ _) takes_body (by rfl) (sas_v (se_mw EM hr (LamX.lamS_by (by decide +kernel)) (by rfl) (fun _ _ _ _ _ => rfl) (fun _ _ _ _ _ _ _ hr => (se_call D.deeds_text hr (Nat.le_refl _) takes_lam (by rfl) (sas_v (se_add (se_add (se_slice (se_name 3) sp_none (sp_some (se_name 13))) (se_lst (sa_cons (se_name 16) sa_nil))) (se_slice (se_name 3) (sp_some (se_name 13)) sp_none)) sas_nil)))) (sas_v (se_tup (sa_cons se_str (sa_cons (se_name 13) sa_nil))) sas_nil))))) (sb_one (ss_ret se_bl)) sb_nil)))) (sb_one (ss_for (passes_of rfl) rfl (si_val (se_lst (sa_cons se_non (sa_cons se_int (sa_cons se_str (sa_cons se_dct0 sa_nil)))))) (sg_name 16 true sc_law.nd (by rfl) (by first | exact Or.inl rfl | exact Or.inr rfl)) (sb_cons (ss_set 17 false sc_law.nd (by rfl) (by first | exact Or.inl rfl | exact Or.inr rfl) (se_lst (sa_cons (se_mw EM hr (LamX.lamS_by (by decide +kernel)) (by rfl) (fun _ _ _ _ _ => rfl) (fun _ _ _ _ _ _ _ hr => (se_call D.deeds_text hr (Nat.le_refl _) takes_lam (by rfl) (sas_v (se_name 16) sas_nil)))) sa_nil))) (sb_cons (ss_expr (se_append 17 (se_mw EM hr (LamX.lamS_by (by decide +kernel)) (by rfl) (fun _ _ _ _ _ => rfl) (fun _ _ _ _ _ _ _ hr => (se_call D.read_deeds hr (Nat.le_refl _) takes_lam (by rfl) (sas_v (se_lst (sa_cons (se_name 16) sa_nil)) sas_nil)))))) (sb_one (ss_if ((sw_or (st_not (st_truth (se_call D._law_same hr (Nat.le_add_right _ _) takes_body (by rfl) (sas_v (se_name 17) (sas_v (se_lst (sa_cons (se_tup (sa_cons se_str (sa_cons se_int sa_nil))) (sa_cons (se_tup (sa_cons se_str (sa_cons se_int sa_nil))) sa_nil))) sas_nil))))) (sw_or1 (st_not (st_truth (se_call D._law_same hr (Nat.le_add_right _ _) takes_body (by rfl) (sas_v (se_call D.deeds_fault hr (Nat.le_add_right _ _) takes_body (by rfl) (sas_v (se_lst (sa_cons (se_name 16) sa_nil)) sas_nil)) (sas_v se_int sas_nil)))))))).st (sb_one (ss_ret se_bl)) sb_nil)))))))))))))))) (sb_cons (ss_set 17 false sc_law.nd (by rfl) (by first | exact Or.inl rfl | exact Or.inr rfl) (se_lst (sa_cons (se_mw EM hr (LamX.lamS_by (by decide +kernel)) (by rfl) (fun _ _ _ _ _ => rfl) (fun _ _ _ _ _ _ _ hr => (se_call D.deeds_text hr (Nat.le_refl _) takes_lam (by rfl) (sas_v (se_lst sa_nil) sas_nil)))) sa_nil))) (sb_cons (ss_expr (se_append 17 (se_mw EM hr (LamX.lamS_by (by decide +kernel)) (by rfl) (fun _ _ _ _ _ => rfl) (fun _ _ _ _ _ _ _ hr => (se_call D.read_deeds hr (Nat.le_refl _) takes_lam (by rfl) (sas_v se_str sas_nil)))))) (sb_one (ss_ret (se_call D._law_same hr (Nat.le_add_right _ _) takes_body (by rfl) (sas_v (se_name 17) (sas_v (se_lst (sa_cons (se_tup (sa_cons se_str (sa_cons se_str sa_nil))) (sa_cons (se_tup (sa_cons se_str (sa_cons (se_lst sa_nil) sa_nil))) sa_nil))) sas_nil))))))))
end
end L80

set_option Elab.async false
set_option linter.all false
set_option maxRecDepth 100000
set_option maxHeartbeats 0
namespace L80
open PySem PySem.Spec PyProof.Rows L2 Ow
/-! the head -/
def dd_is_number : He.DefD := ⟨("is_number", none), "is_number", "is_number", defArgs (top 6), defBody (top 6), defScope (top 6), [], []⟩
def dd_is_letter : He.DefD := ⟨("is_letter", none), "is_letter", "is_letter", defArgs (top 7), defBody (top 7), defScope (top 7), [], []⟩
def dd_is_deed : He.DefD := ⟨("is_deed", none), "is_deed", "is_deed", defArgs (top 10), defBody (top 10), defScope (top 10), [], []⟩
def dd_plain_deed : He.DefD := ⟨("plain_deed", none), "plain_deed", "plain_deed", defArgs (top 13), defBody (top 13), defScope (top 13), [], []⟩
def dd_deeds_text : He.DefD := ⟨("deeds_text", none), "deeds_text", "deeds_text", defArgs (top 14), defBody (top 14), defScope (top 14), [], []⟩
def dd_deed_of : He.DefD := ⟨("deed_of", none), "deed_of", "deed_of", defArgs (top 15), defBody (top 15), defScope (top 15), [], []⟩
def dd_lines_read : He.DefD := ⟨("lines_read", none), "lines_read", "lines_read", defArgs (top 16), defBody (top 16), defScope (top 16), [], []⟩
def dd_deeds_fault : He.DefD := ⟨("deeds_fault", none), "deeds_fault", "deeds_fault", defArgs (top 17), defBody (top 17), defScope (top 17), [], []⟩
def dd_read_deeds : He.DefD := ⟨("read_deeds", none), "read_deeds", "read_deeds", defArgs (top 18), defBody (top 18), defScope (top 18), [], []⟩
def dd__law_mbent : He.DefD := ⟨("_law_mbent", none), "_law_mbent", "_law_mbent", defArgs (top 20), defBody (top 20), defScope (top 20), [], []⟩
def dd__law_mtext : He.DefD := ⟨("_law_mtext", none), "_law_mtext", "_law_mtext", defArgs (top 21), defBody (top 21), defScope (top 21), [], []⟩
def dd__law_start : He.DefD := ⟨("_law_start", none), "_law_start", "_law_start", defArgs (top 22), defBody (top 22), defScope (top 22), [], []⟩
def dd__law_below : He.DefD := ⟨("_law_below", none), "_law_below", "_law_below", defArgs (top 23), defBody (top 23), defScope (top 23), [], []⟩
def dd__law_pick : He.DefD := ⟨("_law_pick", none), "_law_pick", "_law_pick", defArgs (top 24), defBody (top 24), defScope (top 24), [], []⟩
def dd__law_mixed : He.DefD := ⟨("_law_mixed", none), "_law_mixed", "_law_mixed", defArgs (top 25), defBody (top 25), defScope (top 25), [], []⟩
def dd__law_same : He.DefD := ⟨("_law_same", none), "_law_same", "_law_same", defArgs (top 26), defBody (top 26), defScope (top 26), [], []⟩
def dd__law_loose : He.DefD := ⟨("_law_loose", none), "_law_loose", "_law_loose", defArgs (top 27), defBody (top 27), defScope (top 27), [], []⟩
def dd__law_spoilt : He.DefD := ⟨("_law_spoilt", none), "_law_spoilt", "_law_spoilt", defArgs (top 28), defBody (top 28), defScope (top 28), [], []⟩
def dd__law_is_once : He.DefD := ⟨("_law_is_once", none), "_law_is_once", "_law_is_once", defArgs (top 29), defBody (top 29), defScope (top 29), [], []⟩
def dd__law_apart : He.DefD := ⟨("_law_apart", none), "_law_apart", "_law_apart", defArgs (top 30), defBody (top 30), defScope (top 30), [], []⟩
def dd__law_mread : He.DefD := ⟨("_law_mread", none), "_law_mread", "_law_mread", defArgs (top 31), defBody (top 31), defScope (top 31), [], []⟩
def dd__law_mform : He.DefD := ⟨("_law_mform", none), "_law_mform", "_law_mform", defArgs (top 32), defBody (top 32), defScope (top 32), [], []⟩
def dd__law_mwords : He.DefD := ⟨("_law_mwords", none), "_law_mwords", "_law_mwords", defArgs (top 33), defBody (top 33), defScope (top 33), [], []⟩
def dd_law : He.DefD := ⟨("law", none), "law", "law", defArgs (top 34), defBody (top 34), defScope (top 34), [], []⟩
def ini_BadDeed : Stmt := (C8.clsBody (top 2)).getD 0 (.Pass ⟨0, 0, 0, 0⟩)
def dd_BadDeed : He.DefD := ⟨("BadDeed", some "__init__"), "__init__", "BadDeed.__init__", defArgs ini_BadDeed, defBody ini_BadDeed, defScope ini_BadDeed, [], []⟩
def ini_BadText : Stmt := (C8.clsBody (top 3)).getD 0 (.Pass ⟨0, 0, 0, 0⟩)
def dd_BadText : He.DefD := ⟨("BadText", some "__init__"), "__init__", "BadText.__init__", defArgs ini_BadText, defBody ini_BadText, defScope ini_BadText, [], []⟩
def fn : List He.DefD := [dd_is_number, dd_is_letter, dd_is_deed, dd_plain_deed, dd_deeds_text, dd_deed_of, dd_lines_read, dd_deeds_fault, dd_read_deeds, dd__law_mbent, dd__law_mtext, dd__law_start, dd__law_below, dd__law_pick, dd__law_mixed, dd__law_same, dd__law_loose, dd__law_spoilt, dd__law_is_once, dd__law_apart, dd__law_mread, dd__law_mform, dd__law_mwords, dd_law, dd_BadDeed, dd_BadText]
def fa : List He.Fa := [.glo "is_number", .glo "is_letter", .glo "is_deed", .glo "plain_deed", .glo "deeds_text", .glo "deed_of", .glo "lines_read", .glo "deeds_fault", .glo "read_deeds", .glo "_law_mbent", .glo "_law_mtext", .glo "_law_start", .glo "_law_below", .glo "_law_pick", .glo "_law_mixed", .glo "_law_same", .glo "_law_loose", .glo "_law_spoilt", .glo "_law_is_once", .glo "_law_apart", .glo "_law_mread", .glo "_law_mform", .glo "_law_mwords", .glo "law", .glo "StateError", .glo "BadDeed", .glo "BadText", .glo "NUMBERS", .glo "SIZES", .free "all", .free "bool", .free "dict", .free "enumerate", .free "int", .free "isinstance", .free "len", .free "list", .free "range", .free "str", .free "tuple", .free "zip", .str "SMALL" smallS, .exm "BadText" "BadText" true, .exm "BadDeed" "BadText" false, .exm "BadDeed" "BadDeed" true, .noat "BadText" "line", .noat "BadDeed" "index", .meth "BadText" "__init__", .meth "BadDeed" "__init__"]
def ts : List He.Tab := [(fun K => He.ga K "SIZES", ["hear", "tell", "fresh"])]
def tf : List He.Defn := [("law", none)]
def nums : List Str := ["0", "1", "2", "3", "4", "5"]
def ex (K : PySem.W.Frag) : Bool := He.tupB K "NUMBERS" (nums.map He.Dv.str) && (kTabB K "SIZES" tab_SIZES && (oexB K (He.ga K "BadText") && (oexB K (He.ga K "BadDeed") && (xfB K (He.ga K "BadText") && (xfB K (He.ga K "BadDeed") && (decide (PySem.W.typeIn K (.ref (He.ma K (He.ga K "BadText") "__init__")) = some (.type "function")) && decide (PySem.W.typeIn K (.ref (He.ma K (He.ga K "BadDeed") "__init__")) = some (.type "function"))))))))
abbrev R : PySem.W.OpenRow := PySem.W.OpenLaw.row PySem.Challenge.rw_whichstate_k80_whole_texts_of_notes
abbrev hk : PySem.W.Hook := He.hookX 4 fa fn ts tf ex
def ob (s : PySem.W.SharedT) : He.AlX := He.obsX 4 fa fn ts tf ex (HandSHeadRun.getT s)
theorem ob_eq (s : PySem.W.SharedT) : ob s = hk.obs s.abs := He.obsX_eq (HandSHeadRun.getT_eq s)
def loose : List PySem.Str := ["StateError", "BadDeed", "BadText", "SMALL", "is_number", "is_letter", "SIZES", "is_deed", "NUMBERS", "plain_deed", "deeds_text", "deed_of", "lines_read", "deeds_fault", "read_deeds", "_law_mbent", "_law_mtext", "_law_start", "_law_below", "_law_pick", "_law_mixed", "_law_same", "_law_loose", "_law_spoilt", "_law_is_once", "_law_apart", "_law_mread", "_law_mform", "_law_mwords"]
theorem run (w : World) : HandSHeadRun.RunEq R (PySem.W.view R.prog [34]) hk ob 4000 loose w :=
  PySem.W.byRow2 "special-get-raises" (P := fun w => HandSHeadRun.RunEq R (PySem.W.view R.prog [34]) hk ob 4000 loose w) (fun w os => by kernel_rfl) (fun w os => by kernel_rfl) w
section
variable {P : Program} {w : World} {K : PySem.W.Frag} {h : Heap} {mg : Str → Option Value}
theorem facts (KX : K.In h) (Gm : h.Ns mainGlobals mg) (S : He.SaysX fa fn ts tf ex w h K) (base : Heap) (TB : LamX.TabB base mg (He.cT K ("law", none)).1 (tabK K)) : EnvL P w K mg base ∧ EnvM K mg base := by
  have c : He.SaysD fa fn K := S.t.d
  obtain ⟨e1, e2⟩ := He.ba S.more
  obtain ⟨e2, e3⟩ := He.ba e2
  obtain ⟨e3, e4⟩ := He.ba e3
  obtain ⟨e4, e5⟩ := He.ba e4
  obtain ⟨e5, e6⟩ := He.ba e5
  obtain ⟨e6, e7⟩ := He.ba e6
  obtain ⟨e7, e8⟩ := He.ba e7
  have g_is_number := He.glo_ok KX Gm (c.fact 0 (f := .glo "is_number") rfl)
  have g_is_letter := He.glo_ok KX Gm (c.fact 1 (f := .glo "is_letter") rfl)
  have g_is_deed := He.glo_ok KX Gm (c.fact 2 (f := .glo "is_deed") rfl)
  have g_plain_deed := He.glo_ok KX Gm (c.fact 3 (f := .glo "plain_deed") rfl)
  have g_deeds_text := He.glo_ok KX Gm (c.fact 4 (f := .glo "deeds_text") rfl)
  have g_deed_of := He.glo_ok KX Gm (c.fact 5 (f := .glo "deed_of") rfl)
  have g_lines_read := He.glo_ok KX Gm (c.fact 6 (f := .glo "lines_read") rfl)
  have g_deeds_fault := He.glo_ok KX Gm (c.fact 7 (f := .glo "deeds_fault") rfl)
  have g_read_deeds := He.glo_ok KX Gm (c.fact 8 (f := .glo "read_deeds") rfl)
  have g__law_mbent := He.glo_ok KX Gm (c.fact 9 (f := .glo "_law_mbent") rfl)
  have g__law_mtext := He.glo_ok KX Gm (c.fact 10 (f := .glo "_law_mtext") rfl)
  have g__law_start := He.glo_ok KX Gm (c.fact 11 (f := .glo "_law_start") rfl)
  have g__law_below := He.glo_ok KX Gm (c.fact 12 (f := .glo "_law_below") rfl)
  have g__law_pick := He.glo_ok KX Gm (c.fact 13 (f := .glo "_law_pick") rfl)
  have g__law_mixed := He.glo_ok KX Gm (c.fact 14 (f := .glo "_law_mixed") rfl)
  have g__law_same := He.glo_ok KX Gm (c.fact 15 (f := .glo "_law_same") rfl)
  have g__law_loose := He.glo_ok KX Gm (c.fact 16 (f := .glo "_law_loose") rfl)
  have g__law_spoilt := He.glo_ok KX Gm (c.fact 17 (f := .glo "_law_spoilt") rfl)
  have g__law_is_once := He.glo_ok KX Gm (c.fact 18 (f := .glo "_law_is_once") rfl)
  have g__law_apart := He.glo_ok KX Gm (c.fact 19 (f := .glo "_law_apart") rfl)
  have g__law_mread := He.glo_ok KX Gm (c.fact 20 (f := .glo "_law_mread") rfl)
  have g__law_mform := He.glo_ok KX Gm (c.fact 21 (f := .glo "_law_mform") rfl)
  have g__law_mwords := He.glo_ok KX Gm (c.fact 22 (f := .glo "_law_mwords") rfl)
  have g_law := He.glo_ok KX Gm (c.fact 23 (f := .glo "law") rfl)
  have g_StateError := He.glo_ok KX Gm (c.fact 24 (f := .glo "StateError") rfl)
  have g_BadDeed := He.glo_ok KX Gm (c.fact 25 (f := .glo "BadDeed") rfl)
  have g_BadText := He.glo_ok KX Gm (c.fact 26 (f := .glo "BadText") rfl)
  have g_NUMBERS := He.glo_ok KX Gm (c.fact 27 (f := .glo "NUMBERS") rfl)
  have g_SIZES := He.glo_ok KX Gm (c.fact 28 (f := .glo "SIZES") rfl)
  have b_all := He.free_ok KX Gm (c.fact 29 (f := .free "all") rfl)
  have b_bool := He.free_ok KX Gm (c.fact 30 (f := .free "bool") rfl)
  have b_dict := He.free_ok KX Gm (c.fact 31 (f := .free "dict") rfl)
  have b_enumerate := He.free_ok KX Gm (c.fact 32 (f := .free "enumerate") rfl)
  have b_int := He.free_ok KX Gm (c.fact 33 (f := .free "int") rfl)
  have b_isinstance := He.free_ok KX Gm (c.fact 34 (f := .free "isinstance") rfl)
  have b_len := He.free_ok KX Gm (c.fact 35 (f := .free "len") rfl)
  have b_list := He.free_ok KX Gm (c.fact 36 (f := .free "list") rfl)
  have b_range := He.free_ok KX Gm (c.fact 37 (f := .free "range") rfl)
  have b_str := He.free_ok KX Gm (c.fact 38 (f := .free "str") rfl)
  have b_tuple := He.free_ok KX Gm (c.fact 39 (f := .free "tuple") rfl)
  have b_zip := He.free_ok KX Gm (c.fact 40 (f := .free "zip") rfl)
  have sm := He.str_ok KX Gm (c.fact 41 (f := .str "SMALL" smallS) rfl)
  have x1 := He.exm_ok (c.fact 42 (f := .exm "BadText" "BadText" true) rfl)
  have x2 := He.exm_ok (c.fact 43 (f := .exm "BadDeed" "BadText" false) rfl)
  have x3 := He.exm_ok (c.fact 44 (f := .exm "BadDeed" "BadDeed" true) rfl)
  have n1 : PySem.W.findIn K (.ref (He.ga K "BadText")) "line" = some none := He.noat_ok (c.fact 45 (f := .noat "BadText" "line") rfl)
  have n2 : PySem.W.findIn K (.ref (He.ga K "BadDeed")) "index" = some none := He.noat_ok (c.fact 46 (f := .noat "BadDeed" "index") rfl)
  have m1 := He.meth_ok (c.fact 47 (f := .meth "BadText" "__init__") rfl)
  have m2 := He.meth_ok (c.fact 48 (f := .meth "BadDeed" "__init__") rfl)
  have d_is_number : ∃ f fd, mg ("is_number" : Str) = some (.ref f) ∧ FnP K "is_number" (top 6) f fd ∧ Binds K fd ["thing", "low", "high"] [] := let ⟨fd, F⟩ := c.def_ 0 (d := dd_is_number) rfl; ⟨_, fd, g_is_number, F, FunD.bindsN F (ps := ["thing", "low", "high"]) (fun _ _ _ _ _ _ us hl => match us, hl with | [_, _, _], _ => rfl)⟩
  have d_is_letter : ∃ f fd, mg ("is_letter" : Str) = some (.ref f) ∧ FnP K "is_letter" (top 7) f fd ∧ Binds K fd ["thing"] [] := let ⟨fd, F⟩ := c.def_ 1 (d := dd_is_letter) rfl; ⟨_, fd, g_is_letter, F, FunD.bindsN F (ps := ["thing"]) (fun _ _ _ _ _ _ us hl => match us, hl with | [_], _ => rfl)⟩
  have d_is_deed : ∃ f fd, mg ("is_deed" : Str) = some (.ref f) ∧ FnP K "is_deed" (top 10) f fd ∧ Binds K fd ["thing"] [] := let ⟨fd, F⟩ := c.def_ 2 (d := dd_is_deed) rfl; ⟨_, fd, g_is_deed, F, FunD.bindsN F (ps := ["thing"]) (fun _ _ _ _ _ _ us hl => match us, hl with | [_], _ => rfl)⟩
  have d_plain_deed : ∃ f fd, mg ("plain_deed" : Str) = some (.ref f) ∧ FnP K "plain_deed" (top 13) f fd ∧ Binds K fd ["thing"] [] := let ⟨fd, F⟩ := c.def_ 3 (d := dd_plain_deed) rfl; ⟨_, fd, g_plain_deed, F, FunD.bindsN F (ps := ["thing"]) (fun _ _ _ _ _ _ us hl => match us, hl with | [_], _ => rfl)⟩
  have d_deeds_text : ∃ f fd, mg ("deeds_text" : Str) = some (.ref f) ∧ FnP K "deeds_text" (top 14) f fd ∧ Binds K fd ["deeds"] [] := let ⟨fd, F⟩ := c.def_ 4 (d := dd_deeds_text) rfl; ⟨_, fd, g_deeds_text, F, FunD.bindsN F (ps := ["deeds"]) (fun _ _ _ _ _ _ us hl => match us, hl with | [_], _ => rfl)⟩
  have d_deed_of : ∃ f fd, mg ("deed_of" : Str) = some (.ref f) ∧ FnP K "deed_of" (top 15) f fd ∧ Binds K fd ["line"] [] := let ⟨fd, F⟩ := c.def_ 5 (d := dd_deed_of) rfl; ⟨_, fd, g_deed_of, F, FunD.bindsN F (ps := ["line"]) (fun _ _ _ _ _ _ us hl => match us, hl with | [_], _ => rfl)⟩
  have d_lines_read : ∃ f fd, mg ("lines_read" : Str) = some (.ref f) ∧ FnP K "lines_read" (top 16) f fd ∧ Binds K fd ["text"] [] := let ⟨fd, F⟩ := c.def_ 6 (d := dd_lines_read) rfl; ⟨_, fd, g_lines_read, F, FunD.bindsN F (ps := ["text"]) (fun _ _ _ _ _ _ us hl => match us, hl with | [_], _ => rfl)⟩
  have d_deeds_fault : ∃ f fd, mg ("deeds_fault" : Str) = some (.ref f) ∧ FnP K "deeds_fault" (top 17) f fd ∧ Binds K fd ["text"] [] := let ⟨fd, F⟩ := c.def_ 7 (d := dd_deeds_fault) rfl; ⟨_, fd, g_deeds_fault, F, FunD.bindsN F (ps := ["text"]) (fun _ _ _ _ _ _ us hl => match us, hl with | [_], _ => rfl)⟩
  have d_read_deeds : ∃ f fd, mg ("read_deeds" : Str) = some (.ref f) ∧ FnP K "read_deeds" (top 18) f fd ∧ Binds K fd ["text"] [] := let ⟨fd, F⟩ := c.def_ 8 (d := dd_read_deeds) rfl; ⟨_, fd, g_read_deeds, F, FunD.bindsN F (ps := ["text"]) (fun _ _ _ _ _ _ us hl => match us, hl with | [_], _ => rfl)⟩
  have d__law_mbent : ∃ f fd, mg ("_law_mbent" : Str) = some (.ref f) ∧ FnP K "_law_mbent" (top 20) f fd ∧ Binds K fd ["stream", "lines", "more"] [] := let ⟨fd, F⟩ := c.def_ 9 (d := dd__law_mbent) rfl; ⟨_, fd, g__law_mbent, F, FunD.bindsN F (ps := ["stream", "lines", "more"]) (fun _ _ _ _ _ _ us hl => match us, hl with | [_, _, _], _ => rfl)⟩
  have d__law_mtext : ∃ f fd, mg ("_law_mtext" : Str) = some (.ref f) ∧ FnP K "_law_mtext" (top 21) f fd ∧ Binds K fd ["lines"] [] := let ⟨fd, F⟩ := c.def_ 10 (d := dd__law_mtext) rfl; ⟨_, fd, g__law_mtext, F, FunD.bindsN F (ps := ["lines"]) (fun _ _ _ _ _ _ us hl => match us, hl with | [_], _ => rfl)⟩
  have d__law_start : ∃ f fd, mg ("_law_start" : Str) = some (.ref f) ∧ FnP K "_law_start" (top 22) f fd ∧ Binds K fd ["script"] [] := let ⟨fd, F⟩ := c.def_ 11 (d := dd__law_start) rfl; ⟨_, fd, g__law_start, F, FunD.bindsN F (ps := ["script"]) (fun _ _ _ _ _ _ us hl => match us, hl with | [_], _ => rfl)⟩
  have d__law_below : ∃ f fd, mg ("_law_below" : Str) = some (.ref f) ∧ FnP K "_law_below" (top 23) f fd ∧ Binds K fd ["stream", "many"] [] := let ⟨fd, F⟩ := c.def_ 12 (d := dd__law_below) rfl; ⟨_, fd, g__law_below, F, FunD.bindsN F (ps := ["stream", "many"]) (fun _ _ _ _ _ _ us hl => match us, hl with | [_, _], _ => rfl)⟩
  have d__law_pick : ∃ f fd, mg ("_law_pick" : Str) = some (.ref f) ∧ FnP K "_law_pick" (top 24) f fd ∧ Binds K fd ["stream", "some"] [] := let ⟨fd, F⟩ := c.def_ 13 (d := dd__law_pick) rfl; ⟨_, fd, g__law_pick, F, FunD.bindsN F (ps := ["stream", "some"]) (fun _ _ _ _ _ _ us hl => match us, hl with | [_, _], _ => rfl)⟩
  have d__law_mixed : ∃ f fd, mg ("_law_mixed" : Str) = some (.ref f) ∧ FnP K "_law_mixed" (top 25) f fd ∧ Binds K fd ["stream", "some"] [] := let ⟨fd, F⟩ := c.def_ 14 (d := dd__law_mixed) rfl; ⟨_, fd, g__law_mixed, F, FunD.bindsN F (ps := ["stream", "some"]) (fun _ _ _ _ _ _ us hl => match us, hl with | [_, _], _ => rfl)⟩
  have d__law_same : ∃ f fd, mg ("_law_same" : Str) = some (.ref f) ∧ FnP K "_law_same" (top 26) f fd ∧ Binds K fd ["found", "due"] [] := let ⟨fd, F⟩ := c.def_ 15 (d := dd__law_same) rfl; ⟨_, fd, g__law_same, F, FunD.bindsN F (ps := ["found", "due"]) (fun _ _ _ _ _ _ us hl => match us, hl with | [_, _], _ => rfl)⟩
  have d__law_loose : ∃ f fd, mg ("_law_loose" : Str) = some (.ref f) ∧ FnP K "_law_loose" (top 27) f fd ∧ Binds K fd ["stream", "thing"] [] := let ⟨fd, F⟩ := c.def_ 16 (d := dd__law_loose) rfl; ⟨_, fd, g__law_loose, F, FunD.bindsN F (ps := ["stream", "thing"]) (fun _ _ _ _ _ _ us hl => match us, hl with | [_, _], _ => rfl)⟩
  have d__law_spoilt : ∃ f fd, mg ("_law_spoilt" : Str) = some (.ref f) ∧ FnP K "_law_spoilt" (top 28) f fd ∧ Binds K fd ["thing"] [] := let ⟨fd, F⟩ := c.def_ 17 (d := dd__law_spoilt) rfl; ⟨_, fd, g__law_spoilt, F, FunD.bindsN F (ps := ["thing"]) (fun _ _ _ _ _ _ us hl => match us, hl with | [_], _ => rfl)⟩
  have d__law_is_once : ∃ f fd, mg ("_law_is_once" : Str) = some (.ref f) ∧ FnP K "_law_is_once" (top 29) f fd ∧ Binds K fd ["thing"] [] := let ⟨fd, F⟩ := c.def_ 18 (d := dd__law_is_once) rfl; ⟨_, fd, g__law_is_once, F, FunD.bindsN F (ps := ["thing"]) (fun _ _ _ _ _ _ us hl => match us, hl with | [_], _ => rfl)⟩
  have d__law_apart : ∃ f fd, mg ("_law_apart" : Str) = some (.ref f) ∧ FnP K "_law_apart" (top 30) f fd ∧ Binds K fd ["thing"] [] := let ⟨fd, F⟩ := c.def_ 19 (d := dd__law_apart) rfl; ⟨_, fd, g__law_apart, F, FunD.bindsN F (ps := ["thing"]) (fun _ _ _ _ _ _ us hl => match us, hl with | [_], _ => rfl)⟩
  have d__law_mread : ∃ f fd, mg ("_law_mread" : Str) = some (.ref f) ∧ FnP K "_law_mread" (top 31) f fd ∧ Binds K fd ["line"] [] := let ⟨fd, F⟩ := c.def_ 20 (d := dd__law_mread) rfl; ⟨_, fd, g__law_mread, F, FunD.bindsN F (ps := ["line"]) (fun _ _ _ _ _ _ us hl => match us, hl with | [_], _ => rfl)⟩
  have d__law_mform : ∃ f fd, mg ("_law_mform" : Str) = some (.ref f) ∧ FnP K "_law_mform" (top 32) f fd ∧ Binds K fd ["stream"] [] := let ⟨fd, F⟩ := c.def_ 21 (d := dd__law_mform) rfl; ⟨_, fd, g__law_mform, F, FunD.bindsN F (ps := ["stream"]) (fun _ _ _ _ _ _ us hl => match us, hl with | [_], _ => rfl)⟩
  have d__law_mwords : ∃ f fd, mg ("_law_mwords" : Str) = some (.ref f) ∧ FnP K "_law_mwords" (top 33) f fd ∧ Binds K fd ["call"] [] := let ⟨fd, F⟩ := c.def_ 22 (d := dd__law_mwords) rfl; ⟨_, fd, g__law_mwords, F, FunD.bindsN F (ps := ["call"]) (fun _ _ _ _ _ _ us hl => match us, hl with | [_], _ => rfl)⟩
  have d_law : ∃ f fd, mg ("law" : Str) = some (.ref f) ∧ FnP K "law" (top 34) f fd ∧ Binds K fd ["script"] [] := let ⟨fd, F⟩ := c.def_ 23 (d := dd_law) rfl; ⟨_, fd, g_law, F, FunD.bindsN F (ps := ["script"]) (fun _ _ _ _ _ _ us hl => match us, hl with | [_], _ => rfl)⟩
  have x_BadDeed : Xc P w K mg base 1 "BadDeed" "index" := by
    obtain ⟨fd, F⟩ := c.def_ 24 (d := dd_BadDeed) rfl
    exact ⟨He.ga K "BadDeed", _, fd, ["self", "index"], g_BadDeed, oexB_ok e4, m2.at_, of_decide_eq_true e8, FunD.bindsN F (ps := ["self", "index"]) (fun _ _ _ _ _ _ us hl => match us, hl with | [_, _], _ => rfl), ok_init F ⟨rfl, rfl, rfl, by decide +kernel, rfl, by decide +kernel, by decide +kernel⟩ (oexB_ok e4) n2⟩
  have x_BadText : Xc P w K mg base 1 "BadText" "line" := by
    obtain ⟨fd, F⟩ := c.def_ 25 (d := dd_BadText) rfl
    exact ⟨He.ga K "BadText", _, fd, ["self", "line"], g_BadText, oexB_ok e3, m1.at_, of_decide_eq_true e7, FunD.bindsN F (ps := ["self", "line"]) (fun _ _ _ _ _ _ us hl => match us, hl with | [_, _], _ => rfl), ok_init F ⟨rfl, rfl, rfl, by decide +kernel, rfl, by decide +kernel, by decide +kernel⟩ (oexB_ok e3) n1⟩
  obtain ⟨es, n, kd⟩ := S.t.tab 0
  have tt : Tb K w mg "SIZES" tab_SIZES := ⟨_, es, n, g_SIZES, kd, of_decide_eq_true e2⟩
  have gn : Gv K mg "NUMBERS" (.tup numsD) := gv_strs (zs := nums) g_NUMBERS (by decide) e1
  refine ⟨⟨b_all, b_bool, b_dict, b_enumerate, b_int, b_isinstance, b_len, b_list, b_range, b_str, b_tuple, b_zip, gv_str sm, gn, tt, x_BadDeed, x_BadText, d_is_number, d_is_letter, d_is_deed, d_plain_deed, d_deeds_text, d_deed_of, d_lines_read, d_deeds_fault, d_read_deeds, d__law_mbent, d__law_mtext, d__law_below, d__law_pick, d__law_mixed, d__law_same, d__law_loose, d__law_spoilt, d__law_is_once, d__law_apart, d__law_mread, d__law_mform⟩, ?_⟩
  obtain ⟨fdl, Fl⟩ := c.def_ 23 (d := dd_law) rfl
  exact ⟨⟨fdl, g_law, Fl⟩, d__law_start, d__law_mwords, ⟨He.ga K "BadText", He.ga K "BadDeed", ⟨g_BadText, rfl, rfl, xfB_ok e5, n1⟩, ⟨g_BadDeed, rfl, rfl, xfB_ok e6, n2⟩, ⟨x1, fun c' hc => by rw [List.mem_singleton.mp hc]; exact x2, x3, fun c' hc => (nomatch hc), trivial⟩⟩, TB⟩
end
end L80

set_option Elab.async false
set_option linter.all false
set_option maxRecDepth 100000
set_option maxHeartbeats 0
namespace L80
open PySem PySem.Spec PyProof.Rows L2 Ow
theorem says {w : World} {K : PySem.W.Frag} {h : Heap} {mg : Str → Option Value} (n : Nat) (hm : ∀ ns : List Int, ns.length ≤ 63 → ∃ e', m_law (cs n) (lawE 19 18 lamQ ns) = .ok (.rt (.sh (.bl true))) e') (KX : K.In h) (Gm : h.Ns mainGlobals mg) (S : He.SaysX fa fn ts tf ex w h K) (fa' : Addr) (hfa : mg ("law" : Str) = some (.ref fa')) :
    LamX.LawAtS PySem.Challenge.rw_whichstate_k80_whole_texts_of_notes w K (L2.CX (PySem.Challenge.rw_whichstate_k80_whole_texts_of_notes).prog w) (n + 2 + 3) 63 "script" mg fa' h := by
  have c : He.SaysD fa fn K := S.t.d
  obtain ⟨fd, F⟩ := c.def_ 23 (d := dd_law) rfl
  have gl : mg ("law" : Str) = some (.ref (He.ga K "law")) := He.glo_ok KX Gm (c.fact 23 (f := .glo "law") rfl)
  have e : fa' = He.ga K "law" := by
    have := hfa.symm.trans gl
    cases this
    rfl
  subst e
  have b := FunD.bindsA (ps := ["script"]) F fun _ _ _ _ _ _ us hl => match us, hl with | [_], _ => rfl
  refine ⟨fd, [He.cT K ("law", none)], spLaw K, fun p hp => ?_, fun p hp => ?_, fun p hp => ?_, fun s u => b s [u] rfl, fun H a ns hl hbits hT hS => ?_, fun base KB GB TB => ?_⟩
  · rw [List.mem_singleton.mp hp]; exact S.empty _ List.mem_cons_self
  · rw [List.mem_singleton.mp hp]; exact S.out _ List.mem_cons_self
  · rw [List.mem_singleton.mp hp]; exact PySem.W.codeHd_of_K KX (S.hd _ List.mem_cons_self)
  · exact ⟨a, ns, rfl, hl, hS, hT _ List.mem_cons_self, fun _ => rfl⟩
  · obtain ⟨V, EM⟩ := facts (P := (PySem.Challenge.rw_whichstate_k80_whole_texts_of_notes).prog) KX Gm S base (TB _ List.mem_cons_self)
    obtain ⟨fd2, _, F2, ok⟩ := ok_law80 V EM (dfs_all V n) hm
    obtain ⟨oc, od, dV, kV, doc, pm, an, cdv, ct, osl, rfl, lk, _⟩ := F.ex
    obtain ⟨oc2, od2, dV2, kV2, doc2, pm2, an2, cdv2, ct2, osl2, rfl, lk2, _⟩ := F2.ex
    have e2 := lk.symm.trans lk2
    cases e2
    exact ok
end L80
open PySem PySem.W PySem.Calls PyProof.Rows
theorem k80_of (hm : ∀ ns : List Int, ns.length ≤ 63 → ∃ e', L80.m_law (L80.cs 20) (Ow.lawE 19 18 L80.lamQ ns) = .ok (.rt (.sh (.bl true))) e') : PySem.Challenge.rw_whichstate_k80_whole_texts_of_notes.Holds := by
  w_on; o_law
  refine HandSHeadRun.head_any (r := OpenLaw.row PySem.Challenge.rw_whichstate_k80_whole_texts_of_notes) (q := view (OpenLaw.row PySem.Challenge.rw_whichstate_k80_whole_texts_of_notes).prog [34]) (H := L80.hk) (ob := L80.ob) (M := 4000) (loose := L80.loose) (d := HandSHeadRun.topDef (OpenLaw.row PySem.Challenge.rw_whichstate_k80_whole_texts_of_notes).prog 34) (kwd := []) L80.ob_eq
    (by kernel_rfl) (fun s => by kernel_rfl) L80.run (by kernel_rfl) (by kernel_rfl) (by kernel_rfl) (by rfl) (by first | assumption | decide +kernel) (by decide +kernel) ⟨rfl, rfl, rfl, rfl, rfl, by decide +kernel⟩ ?hw ?hc
  case hw => w_witness2
  case hc =>
    refine LamX.walk_ofTsE (l := PySem.Challenge.rw_whichstate_k80_whole_texts_of_notes) (n := 63) (k := 25) (x := "script") (CX := fun w => L2.CX (PySem.Challenge.rw_whichstate_k80_whole_texts_of_notes).prog w) rfl (by decide) (by kernel_rfl) ⟨rfl, by decide, by decide⟩ ?F ?hCX
    case hCX =>
      intro w H s e s' h
      obtain ⟨_, _, _, _, _, _, _, _, _, _, _, _, z⟩ := h
      exact z.elim
    case F =>
      intro w mg fa h Y G hmg0
      obtain ⟨K, KX, c⟩ := Y
      have hmg : mg ("law" : PySem.Str) = some (.ref fa) := by
        have e : (HandSHeadRun.topDef (OpenLaw.row PySem.Challenge.rw_whichstate_k80_whole_texts_of_notes).prog 34).name = ("law" : PySem.Str) := by kernel_rfl
        rw [← e]
        exact hmg0
      exact ⟨K, KX, L80.says 20 hm KX G c fa hmg⟩

set_option maxHeartbeats 0 in
theorem PySem.Challenge.cw_whichstate_k80_whole_texts_of_notes_holds : PySem.Challenge.rw_whichstate_k80_whole_texts_of_notes.Holds := by
  exact k80_of L80.hm
