import PyProof.Rows.All
import Wide.All
import OpenK.AllK
import Wide.FinOn
import HandS.ForMost
import HandS.Exc
import HandS.ExcOwn
import HandS.TryMany
import HandS.ExcIs
import HandS.IsInst
import HandS.Wide
import HandS.TupAny
import HandS.TupMul
import HandS.ExcInit
import HandS.More
import HandS.Text
import HandS.Words
import KE.KExcIs
import HandS.Defaults
import PyProof.ExcBaseAll.ValueError
import HandS.ExcField
import HandS.TryOnly
import KE.GoesMore
import KE.GoesEnum
import HandS.StrMore
import HandS.Strs
import HandS.HeadHook1
import HandS.HeadHook2
import HandS.HeadHook3
import PyProof.FitsReplace
import HandS.Head0
import HandS.Head1
import HandS.Head2
import HandS.HeadEnd
import KE.KStateDown
import Wide.Once
import PySem.Challenge.RW_everydraw_k82_sayings_written_down
set_option Elab.async false
set_option linter.all false
section
set_option maxRecDepth 100000
set_option maxHeartbeats 4000000
/-! U1: tree data, how the heap bears it, the state of a def as data; freezing a list. -/
namespace TT
open PySem PySem.Spec PyProof.Rows L2

abbrev St := L2.St
/-- tree data: what a Python value is, its lists and tuples all the way -/
inductive D where
  | non | bl (b : Bool) | int (i : Int) | str (s : Str)
  | lst (xs : List D) | tup (xs : List D)
  | ins (c : Nat) (fs : List D)
  | exc (c : Nat) (xs : List D)
/-- trees of which some lists are one's own -/
inductive M where
  | fz (d : D) | lst (ms : List M) | tup (ms : List M) | ins (c : Nat) (ms : List M)

/-- the classes of a text: addresses and fields by number; exceptions by number, their one field's name -/
structure Tx where
  K : PySem.W.Frag
  mg : Str → Option Value
  cA : Nat → Addr
  cF : Nat → List Str
  eA : Nat → Addr
  eF : Nat → Str

/-- a list that is frozen -/
def SqF (H : Hp) (a : Addr) (xs : List V) : Prop := ∃ o, H a = some (.frz o (.lst xs))
theorem SqF.rd {H : Hp} {a : Addr} {xs : List V} (h : SqF H a xs) : Rd H a (.lst xs) := .inr h
/-- a tracked tuple -/
def SqU (H : Hp) (a : Addr) (xs : List V) : Prop := H a = some (.tup xs)
theorem SqU.sq {K : PySem.W.Frag} {H : Hp} {a : Addr} {xs : List V} (h : SqU H a xs) : SqT K H a xs := .inl (.inl h)
/-- what is kept of a caught exception -/
def exHO (a : Addr) (cls : Value) (d : Option Addr) : HO := .ext fun h => ∃ oe vs, h.get? a = some oe ∧ Zc cls d oe ∧ oe.data = .fields vs

mutual
def Rep (T : Tx) (H : Hp) : D → V → Prop
  | .non, v => v = .non
  | .bl b, v => v = .bl b
  | .int i, v => v = .int i
  | .str s, v => v = .str s
  | .lst ds, v => ∃ a xs, v = .ref a ∧ SqF H a xs ∧ Reps T H ds xs
  | .tup ds, v => ∃ a xs, v = .ref a ∧ SqU H a xs ∧ Reps T H ds xs
  | .ins c fs, v => ∃ a dx xs, v = .ref a ∧ H a = some (.ins (T.cA c) dx ((T.cF c).zip xs)) ∧ xs.length = (T.cF c).length ∧ Reps T H fs xs
  | .exc c ds, v => ∃ a d xs, v = .ref a ∧ H a = some (exHO a (.ref (T.eA c)) d) ∧ ((xs = [] ∧ d = none) ∨ ∃ x dx, xs = [x] ∧ d = some dx ∧ H dx = some (.xd [(T.eF c, x)])) ∧ Reps T H ds xs
def Reps (T : Tx) (H : Hp) : List D → List V → Prop
  | [], vs => vs = []
  | d :: ds, vs => ∃ x xs, vs = x :: xs ∧ Rep T H d x ∧ Reps T H ds xs
end

/-- what never changes -/
def isFix : HO → Bool
  | .lst _ => false
  | .dK _ => false
  | .dT _ => false
  | .set _ _ => false
  | .frz _ (.dK _) => false
  | .frz _ (.dT _) => false
  | _ => true
def Mono (H H' : Hp) : Prop := ∀ a o, H a = some o → isFix o = true → H' a = some o
theorem Mono.refl {H : Hp} : Mono H H := fun _ _ e _ => e
theorem Mono.trans {H H1 H2 : Hp} (h : Mono H H1) (k : Mono H1 H2) : Mono H H2 := fun a o e f => k a o (h a o e f) f
theorem Same.mono {H H' : Hp} (s : Same H H') : Mono H H' := fun a o e _ => s a o e
theorem SqF.mono {H H' : Hp} {a : Addr} {xs : List V} (m : Mono H H') (h : SqF H a xs) : SqF H' a xs := h.imp fun _ q => m _ _ q rfl
theorem Rd.same {H H' : Hp} {a : Addr} {u : HO} (s : Same H H') (h : Rd H a u) : Rd H' a u := h.imp (s _ _) fun ⟨o, q⟩ => ⟨o, s _ _ q⟩
theorem SqU.mono {H H' : Hp} {a : Addr} {xs : List V} (m : Mono H H') (h : SqU H a xs) : SqU H' a xs := m _ _ h rfl
theorem Same.refl {H : Hp} : Same H H := fun _ _ e => e
theorem Same.trans {H H1 H2 : Hp} (a : Same H H1) (b : Same H1 H2) : Same H H2 := fun x o e => b x o (a x o e)
theorem Same.upd {H : Hp} {a : Addr} {o : HO} (h : H a = none) : Same H (upd H a o) := fun b u e => by
  rw [upd_ne (ne_of_none e h)]; exact e
theorem none_of {H H' : Hp} {a : Addr} (s : Same H H') (h : H' a = none) : H a = none := by
  cases q : H a with
  | none => rfl
  | some o => rw [s _ _ q] at h; cases h

mutual
theorem Rep.mono {T : Tx} {H H' : Hp} (m : Mono H H') : ∀ (d : D) (v : V), Rep T H d v → Rep T H' d v
  | .non, _, h => h
  | .bl _, _, h => h
  | .int _, _, h => h
  | .str _, _, h => h
  | .lst ds, _, ⟨a, xs, e, s, r⟩ => ⟨a, xs, e, s.mono m, Reps.mono m ds xs r⟩
  | .tup ds, _, ⟨a, xs, e, s, r⟩ => ⟨a, xs, e, SqU.mono m s, Reps.mono m ds xs r⟩
  | .ins c fs, _, ⟨a, dx, xs, e, s, l, r⟩ => ⟨a, dx, xs, e, m _ _ s rfl, l, Reps.mono m fs xs r⟩
  | .exc c ds, _, ⟨a, d, xs, e, s, l, r⟩ => ⟨a, d, xs, e, m _ _ s rfl, l.imp id fun ⟨x, dx, e1, e2, e3⟩ => ⟨x, dx, e1, e2, m _ _ e3 rfl⟩, Reps.mono m ds xs r⟩
theorem Reps.mono {T : Tx} {H H' : Hp} (m : Mono H H') : ∀ (ds : List D) (vs : List V), Reps T H ds vs → Reps T H' ds vs
  | [], _, h => h
  | d :: ds, _, ⟨x, xs, e, h, r⟩ => ⟨x, xs, e, Rep.mono m d x h, Reps.mono m ds xs r⟩
end

theorem Reps.length {T : Tx} {H : Hp} : ∀ {ds : List D} {vs : List V}, Reps T H ds vs → ds.length = vs.length
  | [], _, h => by cases h; rfl
  | _ :: _, _, ⟨_, _, e, _, r⟩ => by subst e; simp [Reps.length r]
theorem Reps.get {T : Tx} {H : Hp} : ∀ {ds : List D} {vs : List V} {i : Nat} {d : D}, Reps T H ds vs → ds[i]? = some d → ∃ v, vs[i]? = some v ∧ Rep T H d v
  | [], _, _, _, _, e => by simp at e
  | d :: ds, _, 0, _, ⟨x, xs, e, h, r⟩, q => by subst e; simp at q; subst q; exact ⟨x, by simp, h⟩
  | d :: ds, _, i + 1, _, ⟨x, xs, e, h, r⟩, q => by
    subst e
    obtain ⟨v, h1, h2⟩ := Reps.get (i := i) r (by simpa using q)
    exact ⟨v, by simpa using h1, h2⟩
theorem Reps.append {T : Tx} {H : Hp} : ∀ {ds es : List D} {vs us : List V}, Reps T H ds vs → Reps T H es us → Reps T H (ds ++ es) (vs ++ us)
  | [], _, _, _, h, k => by cases h; exact k
  | d :: ds, _, _, _, ⟨x, xs, e, h, r⟩, k => by subst e; exact ⟨x, xs ++ _, rfl, h, Reps.append r k⟩
theorem Reps.one {T : Tx} {H : Hp} {d : D} {v : V} (h : Rep T H d v) : Reps T H [d] [v] := ⟨v, [], rfl, h, rfl⟩
theorem Reps.cons {T : Tx} {H : Hp} {d : D} {v : V} {ds : List D} {vs : List V} (h : Rep T H d v) (r : Reps T H ds vs) : Reps T H (d :: ds) (v :: vs) := ⟨v, vs, rfl, h, r⟩
theorem Reps.take {T : Tx} {H : Hp} : ∀ {ds : List D} {vs : List V} (n : Nat), Reps T H ds vs → Reps T H (ds.take n) (vs.take n)
  | _, _, 0, _ => rfl
  | [], _, _ + 1, h => by cases h; rfl
  | _ :: _, _, n + 1, ⟨x, xs, e, h, r⟩ => by subst e; exact ⟨x, xs.take n, rfl, h, Reps.take n r⟩
theorem Reps.drop {T : Tx} {H : Hp} : ∀ {ds : List D} {vs : List V} (n : Nat), Reps T H ds vs → Reps T H (ds.drop n) (vs.drop n)
  | _, _, 0, h => h
  | [], _, _ + 1, h => by cases h; rfl
  | _ :: _, _, n + 1, ⟨x, xs, e, h, r⟩ => by subst e; exact Reps.drop n r
theorem Reps.set {T : Tx} {H : Hp} {d : D} {v : V} (q : Rep T H d v) : ∀ {ds : List D} {vs : List V} (n : Nat), Reps T H ds vs → Reps T H (ds.set n d) (vs.set n v)
  | [], _, _, h => by cases h; rfl
  | _ :: _, _, 0, ⟨x, xs, e, h, r⟩ => by subst e; exact ⟨v, xs, rfl, q, r⟩
  | _ :: _, _, n + 1, ⟨x, xs, e, h, r⟩ => by subst e; exact ⟨x, xs.set n v, rfl, h, Reps.set q n r⟩
theorem Reps.reverse {T : Tx} {H : Hp} : ∀ {ds : List D} {vs : List V}, Reps T H ds vs → Reps T H ds.reverse vs.reverse
  | [], _, h => by cases h; rfl
  | _ :: _, _, ⟨x, xs, e, h, r⟩ => by subst e; rw [List.reverse_cons, List.reverse_cons]; exact (Reps.reverse r).append (Reps.one h)

/-! ### trees with lists of one's own -/
mutual
def RepM (T : Tx) (H : Hp) : M → V → List Addr → Prop
  | .fz d, v, F => Rep T H d v ∧ F = []
  | .lst ms, v, F => ∃ a xs G, v = .ref a ∧ H a = some (.lst xs) ∧ RepMs T H ms xs G ∧ F = a :: G
  | .tup ms, v, F => ∃ a xs, v = .ref a ∧ SqU H a xs ∧ RepMs T H ms xs F
  | .ins c ms, v, F => ∃ a dx xs, v = .ref a ∧ H a = some (.ins (T.cA c) dx ((T.cF c).zip xs)) ∧ xs.length = (T.cF c).length ∧ RepMs T H ms xs F
def RepMs (T : Tx) (H : Hp) : List M → List V → List Addr → Prop
  | [], vs, F => vs = [] ∧ F = []
  | m :: ms, vs, F => ∃ x xs G1 G2, vs = x :: xs ∧ RepM T H m x G1 ∧ RepMs T H ms xs G2 ∧ F = G1 ++ G2
end
/-- where the lists stand as before -/
def Eqs (H H' : Hp) (F : List Addr) : Prop := ∀ a ∈ F, ∀ xs, H a = some (.lst xs) → H' a = some (.lst xs)
mutual
theorem RepM.keep {T : Tx} {H H' : Hp} (m : Mono H H') : ∀ (d : M) (v : V) (F : List Addr), Eqs H H' F → RepM T H d v F → RepM T H' d v F
  | .fz d, _, _, _, ⟨h, e⟩ => ⟨Rep.mono m _ _ h, e⟩
  | .lst ms, _, F, q, ⟨a, xs, G, e, s, r, e2⟩ => ⟨a, xs, G, e, q a (by rw [e2]; exact List.mem_cons_self) xs s, RepMs.keep m ms xs G (fun b hb => q b (by rw [e2]; exact List.mem_cons_of_mem _ hb)) r, e2⟩
  | .tup ms, _, F, q, ⟨a, xs, e, s, r⟩ => ⟨a, xs, e, SqU.mono m s, RepMs.keep m ms xs F q r⟩
  | .ins c ms, _, F, q, ⟨a, dx, xs, e, s, l, r⟩ => ⟨a, dx, xs, e, m _ _ s rfl, l, RepMs.keep m ms xs F q r⟩
theorem RepMs.keep {T : Tx} {H H' : Hp} (m : Mono H H') : ∀ (ds : List M) (vs : List V) (F : List Addr), Eqs H H' F → RepMs T H ds vs F → RepMs T H' ds vs F
  | [], _, _, _, h => h
  | d :: ds, _, F, q, ⟨x, xs, G1, G2, e, h, r, e2⟩ => ⟨x, xs, G1, G2, e, RepM.keep m d x G1 (fun b hb => q b (by rw [e2]; exact List.mem_append_left _ hb)) h, RepMs.keep m ds xs G2 (fun b hb => q b (by rw [e2]; exact List.mem_append_right _ hb)) r, e2⟩
end
theorem RepM.same {T : Tx} {H H' : Hp} (s : Same H H') {d : M} {v : V} {F : List Addr} (h : RepM T H d v F) : RepM T H' d v F := h.keep (Same.mono s) _ _ _ fun a _ xs e => s _ _ e
theorem RepMs.same {T : Tx} {H H' : Hp} (s : Same H H') {d : List M} {v : List V} {F : List Addr} (h : RepMs T H d v F) : RepMs T H' d v F := h.keep (Same.mono s) _ _ _ fun a _ xs e => s _ _ e
mutual
theorem RepM.lsts {T : Tx} {H : Hp} : ∀ (d : M) (v : V) (F : List Addr), RepM T H d v F → ∀ a ∈ F, ∃ xs, H a = some (.lst xs)
  | .fz d, _, _, ⟨_, e⟩, a, ha => by subst e; cases ha
  | .lst ms, _, _, ⟨b, xs, G, _, s, r, e2⟩, a, ha => by
    subst e2
    rcases List.mem_cons.mp ha with rfl | ha
    · exact ⟨_, s⟩
    · exact RepMs.lsts ms _ _ r a ha
  | .tup ms, _, _, ⟨b, xs, _, s, r⟩, a, ha => RepMs.lsts ms _ _ r a ha
  | .ins c ms, _, _, ⟨b, dx, xs, _, s, _, r⟩, a, ha => RepMs.lsts ms _ _ r a ha
theorem RepMs.lsts {T : Tx} {H : Hp} : ∀ (d : List M) (v : List V) (F : List Addr), RepMs T H d v F → ∀ a ∈ F, ∃ xs, H a = some (.lst xs)
  | [], _, _, ⟨_, e⟩, a, ha => by subst e; cases ha
  | m :: ms, _, _, ⟨x, xs, G1, G2, _, h1, h2, e2⟩, a, ha => by
    subst e2
    rcases List.mem_append.mp ha with ha | ha
    · exact RepM.lsts m _ _ h1 a ha
    · exact RepMs.lsts ms _ _ h2 a ha
end
theorem RepMs.length {T : Tx} {H : Hp} : ∀ {ds : List M} {vs : List V} {F : List Addr}, RepMs T H ds vs F → ds.length = vs.length
  | [], _, _, h => by obtain ⟨e, _⟩ := h; subst e; rfl
  | _ :: _, _, _, ⟨_, _, _, _, e, _, r, _⟩ => by subst e; simp [RepMs.length r]
theorem reps_m {T : Tx} {H : Hp} : ∀ {ds : List D} {vs : List V}, Reps T H ds vs → RepMs T H (ds.map M.fz) vs []
  | [], _, h => ⟨h, rfl⟩
  | _ :: _, _, ⟨x, xs, e, h, r⟩ => ⟨x, xs, [], [], e, ⟨h, rfl⟩, reps_m r, rfl⟩
theorem RepMs.get {T : Tx} {H : Hp} : ∀ {ds : List M} {vs : List V} {F : List Addr} {i : Nat} {d : M}, RepMs T H ds vs F → ds[i]? = some d → ∃ v G, vs[i]? = some v ∧ RepM T H d v G
  | [], _, _, _, _, _, e => by simp at e
  | d :: ds, _, _, 0, _, ⟨x, xs, G1, G2, e, h, r, _⟩, q => by subst e; simp at q; subst q; exact ⟨x, G1, by simp, h⟩
  | d :: ds, _, _, i + 1, _, ⟨x, xs, G1, G2, e, h, r, _⟩, q => by
    subst e
    obtain ⟨v, G, h1, h2⟩ := RepMs.get (i := i) r (by simpa using q)
    exact ⟨v, G, by simpa using h1, h2⟩
/-! ### trees that are looked at: their lists may be anyone's -/
mutual
def RepV (T : Tx) (H : Hp) : M → V → Prop
  | .fz d, v => Rep T H d v
  | .lst ms, v => ∃ a xs, v = .ref a ∧ Rd H a (.lst xs) ∧ RepVs T H ms xs
  | .tup ms, v => ∃ a xs, v = .ref a ∧ SqU H a xs ∧ RepVs T H ms xs
  | .ins c ms, v => ∃ a dx xs, v = .ref a ∧ H a = some (.ins (T.cA c) dx ((T.cF c).zip xs)) ∧ xs.length = (T.cF c).length ∧ RepVs T H ms xs
def RepVs (T : Tx) (H : Hp) : List M → List V → Prop
  | [], vs => vs = []
  | m :: ms, vs => ∃ x xs, vs = x :: xs ∧ RepV T H m x ∧ RepVs T H ms xs
end
mutual
theorem RepV.keep {T : Tx} {H H' : Hp} (m : Mono H H') (q : ∀ a xs, Rd H a (.lst xs) → Rd H' a (.lst xs)) : ∀ (d : M) (v : V), RepV T H d v → RepV T H' d v
  | .fz d, _, h => Rep.mono m _ _ h
  | .lst ms, _, ⟨a, xs, e, s, r⟩ => ⟨a, xs, e, q a xs s, RepVs.keep m q ms xs r⟩
  | .tup ms, _, ⟨a, xs, e, s, r⟩ => ⟨a, xs, e, SqU.mono m s, RepVs.keep m q ms xs r⟩
  | .ins c ms, _, ⟨a, dx, xs, e, s, l, r⟩ => ⟨a, dx, xs, e, m _ _ s rfl, l, RepVs.keep m q ms xs r⟩
theorem RepVs.keep {T : Tx} {H H' : Hp} (m : Mono H H') (q : ∀ a xs, Rd H a (.lst xs) → Rd H' a (.lst xs)) : ∀ (d : List M) (v : List V), RepVs T H d v → RepVs T H' d v
  | [], _, h => h
  | d :: ds, _, ⟨x, xs, e, h, r⟩ => ⟨x, xs, e, RepV.keep m q d x h, RepVs.keep m q ds xs r⟩
end
theorem RepV.same {T : Tx} {H H' : Hp} (s : Same H H') {d : M} {v : V} (h : RepV T H d v) : RepV T H' d v := RepV.keep (Same.mono s) (fun _ _ r => Rd.same s r) _ _ h
mutual
theorem RepM.v {T : Tx} {H : Hp} : ∀ (d : M) (v : V) (F : List Addr), RepM T H d v F → RepV T H d v
  | .fz d, _, _, h => h.1
  | .lst ms, _, _, ⟨a, xs, G, e, s, r, _⟩ => ⟨a, xs, e, .inl s, RepMs.v ms xs G r⟩
  | .tup ms, _, F, ⟨a, xs, e, s, r⟩ => ⟨a, xs, e, s, RepMs.v ms xs F r⟩
  | .ins c ms, _, F, ⟨a, dx, xs, e, s, l, r⟩ => ⟨a, dx, xs, e, s, l, RepMs.v ms xs F r⟩
theorem RepMs.v {T : Tx} {H : Hp} : ∀ (d : List M) (v : List V) (F : List Addr), RepMs T H d v F → RepVs T H d v
  | [], _, _, h => h.1
  | d :: ds, _, _, ⟨x, xs, G1, G2, e, h, r, _⟩ => ⟨x, xs, e, RepM.v d x G1 h, RepMs.v ds xs G2 r⟩
end
theorem RepVs.length {T : Tx} {H : Hp} : ∀ {ds : List M} {vs : List V}, RepVs T H ds vs → ds.length = vs.length
  | [], _, h => by cases h; rfl
  | _ :: _, _, ⟨_, _, e, _, r⟩ => by subst e; simp [RepVs.length r]
theorem RepVs.get {T : Tx} {H : Hp} : ∀ {ds : List M} {vs : List V} {i : Nat} {d : M}, RepVs T H ds vs → ds[i]? = some d → ∃ v, vs[i]? = some v ∧ RepV T H d v
  | [], _, _, _, _, e => by simp at e
  | d :: ds, _, 0, _, ⟨x, xs, e, h, r⟩, q => by subst e; simp at q; subst q; exact ⟨x, by simp, h⟩
  | d :: ds, _, i + 1, _, ⟨x, xs, e, h, r⟩, q => by
    subst e
    obtain ⟨v, h1, h2⟩ := RepVs.get (i := i) r (by simpa using q)
    exact ⟨v, by simpa using h1, h2⟩
theorem reps_v {T : Tx} {H : Hp} : ∀ {ds : List D} {vs : List V}, Reps T H ds vs → RepVs T H (ds.map M.fz) vs
  | [], _, h => h
  | _ :: _, _, ⟨x, xs, e, h, r⟩ => ⟨x, xs, e, h, reps_v r⟩

/-- a heap without some places -/
def hide (H : Hp) (F : List Addr) : Hp := fun a => if a ∈ F then none else H a
theorem hide_in {H : Hp} {F : List Addr} {a : Addr} (h : a ∈ F) : hide H F a = none := if_pos h
theorem hide_out {H : Hp} {F : List Addr} {a : Addr} (h : a ∉ F) : hide H F a = H a := if_neg h
theorem hide_same {H : Hp} {F : List Addr} : Same (hide H F) H := fun a o e => by
  by_cases h : a ∈ F
  · rw [hide_in h] at e; cases e
  · rw [hide_out h] at e; exact e
theorem hide_mono {H : Hp} {F : List Addr} (l : ∀ a ∈ F, ∀ u, H a = some u → isFix u = false) : Mono H (hide H F) := fun a o e f => by
  rw [hide_out fun h => by rw [l a h o e] at f; cases f]; exact e

/-! ### dicts -/
def KvR {κ : Type} (T : Tx) (H : Hp) (kvs : List (κ × D)) (xs : List (κ × V)) : Prop := Paired (fun p q => p.1 = q.1 ∧ Rep T H p.2 q.2) kvs xs
theorem KvR.mono {κ : Type} {T : Tx} {H H' : Hp} {kvs : List (κ × D)} {xs : List (κ × V)} (m : Mono H H') (h : KvR T H kvs xs) : KvR T H' kvs xs := Paired.mapP h fun _ _ z => ⟨z.1, Rep.mono m _ _ z.2⟩

/-! ### slots -/
/-- a slot's data: nothing known; shared; a list of the def's own (its items shared); a list lent by the caller; a dict (tuples as keys; texts and ints), one's own or lent; a tree of one's own; a tree lent to be changed; a tree lent; a tree looked at for the moment -/
inductive Sl where
  | no | fr (d : D) | own (ds : List D) | bor (ds : List D)
  | dt (o : Bool) (kvs : List (List Key × D)) | dk (o : Bool) (kvs : List (Key × D))
  | deep (m : M) | mp (m : M) | lent (m : M) | view (m : M)
/-- the entry: its heap, and which values the slots of changeable trees hold -/
structure Bs where
  h : Hp
  pv : Nat → V
def dtHO (H0 H : Hp) (o : Bool) (a : Addr) (u : HO) : Prop := if o = true then H a = some u else H0 a = some u
def SlR (T : Tx) (B : Bs) (H : Hp) (i : Nat) : Sl → Option V → List Addr → Prop
  | .no, _, F => F = []
  | .fr d, o, F => (∃ v, o = some v ∧ Rep T H d v) ∧ F = []
  | .own ds, o, F => ∃ a xs, o = some (.ref a) ∧ H a = some (.lst xs) ∧ Reps T H ds xs ∧ F = [a]
  | .bor ds, o, F => ∃ a xs, o = some (.ref a) ∧ Rd B.h a (.lst xs) ∧ Reps T H ds xs ∧ F = []
  | .dt b kvs, o, F => ∃ a xs, o = some (.ref a) ∧ dtHO B.h H b a (.dT xs) ∧ KvR T H kvs xs ∧ F = (if b = true then [a] else [])
  | .dk b kvs, o, F => ∃ a xs, o = some (.ref a) ∧ dtHO B.h H b a (.dK xs) ∧ KvR T H kvs xs ∧ F = (if b = true then [a] else [])
  | .deep m, o, F => ∃ v, o = some v ∧ RepM T H m v F
  | .mp m, o, F => o = some (B.pv i) ∧ RepM T H m (B.pv i) F
  | .lent m, o, F => (∃ v, o = some v ∧ RepV T B.h m v) ∧ F = []
  | .view _, _, _ => False
abbrev Dl := List Sl
structure Fps (T : Tx) (B : Bs) (H : Hp) (δ : Dl) (σ : St) (F : Nat → List Addr) : Prop where
  slot : ∀ i s, δ[i]? = some s → SlR T B H i s (σ.getD i none) (F i)
  nd : ∀ i, (F i).Nodup
  ap : ∀ i j a, a ∈ F i → a ∈ F j → i = j
  new : ∀ i a, a ∈ F i → B.h a = none
/-- the state of a def: B its entry -/
structure EnvR (T : Tx) (B : Bs) (H : Hp) (δ : Dl) (σ : St) : Prop where
  len : δ.length = σ.length
  same : Same B.h H
  ex : ∃ F, Fps T B H δ σ F
theorem dtHO.keep {H0 H H' : Hp} {b : Bool} {a : Addr} {u : HO} (h : dtHO H0 H b a u) (k : b = true → H a = some u → H' a = some u) : dtHO H0 H' b a u := by
  unfold dtHO at *
  cases b with
  | true => simp at h ⊢; exact k rfl h
  | false => simpa using h
theorem dtHO.at {H0 H : Hp} {b : Bool} {a : Addr} {u : HO} (h : dtHO H0 H b a u) (s : Same H0 H) : H a = some u := by
  unfold dtHO at h
  cases b with
  | true => simpa using h
  | false => simp at h; exact s _ _ h
/-- a slot's meaning when its own places stand as before -/
theorem SlR.keep {T : Tx} {B : Bs} {H H' : Hp} {i : Nat} (m : Mono H H') : ∀ {s : Sl} {o : Option V} {F : List Addr}, (∀ a ∈ F, H' a = H a) → SlR T B H i s o F → SlR T B H' i s o F
  | .no, _, _, _, h => h
  | .fr d, _, _, _, ⟨⟨v, h1, h2⟩, e⟩ => ⟨⟨v, h1, Rep.mono m _ _ h2⟩, e⟩
  | .own ds, _, _, q, ⟨a, xs, h1, h2, h3, e⟩ => ⟨a, xs, h1, by rw [q a (by rw [e]; exact List.mem_cons_self)]; exact h2, Reps.mono m _ _ h3, e⟩
  | .bor ds, _, _, _, ⟨a, xs, h1, h2, h3, e⟩ => ⟨a, xs, h1, h2, Reps.mono m _ _ h3, e⟩
  | .dt b kvs, _, _, q, ⟨a, xs, h1, h2, h3, e⟩ => ⟨a, xs, h1, h2.keep fun hb z => by rw [q a (by rw [e, if_pos hb]; exact List.mem_cons_self)]; exact z, h3.mono m, e⟩
  | .dk b kvs, _, _, q, ⟨a, xs, h1, h2, h3, e⟩ => ⟨a, xs, h1, h2.keep fun hb z => by rw [q a (by rw [e, if_pos hb]; exact List.mem_cons_self)]; exact z, h3.mono m, e⟩
  | .deep d, _, _, q, ⟨v, h1, h2⟩ => ⟨v, h1, RepM.keep m _ _ _ (fun a ha xs e => by rw [q a ha]; exact e) h2⟩
  | .mp d, _, _, q, ⟨h1, h2⟩ => ⟨h1, RepM.keep m _ _ _ (fun a ha xs e => by rw [q a ha]; exact e) h2⟩
  | .lent d, _, _, _, h => h
  | .view _, _, _, _, h => h.elim
theorem SlR.there {T : Tx} {B : Bs} {H : Hp} {i : Nat} : ∀ {s : Sl} {o : Option V} {F : List Addr}, SlR T B H i s o F → ∀ a ∈ F, ∃ u, H a = some u ∧ isFix u = false
  | .no, _, _, h, a, ha => by cases h; cases ha
  | .fr d, _, _, ⟨_, e⟩, a, ha => by subst e; cases ha
  | .own ds, _, _, ⟨b, xs, h1, h2, h3, e⟩, a, ha => by subst e; cases List.mem_singleton.mp ha; exact ⟨_, h2, rfl⟩
  | .bor ds, _, _, ⟨b, xs, h1, h2, h3, e⟩, a, ha => by subst e; cases ha
  | .dt o kvs, _, _, ⟨b, xs, h1, h2, h3, e⟩, a, ha => by
    subst e
    cases o with
    | true => cases List.mem_singleton.mp ha; exact ⟨_, by simpa [dtHO] using h2, rfl⟩
    | false => cases ha
  | .dk o kvs, _, _, ⟨b, xs, h1, h2, h3, e⟩, a, ha => by
    subst e
    cases o with
    | true => cases List.mem_singleton.mp ha; exact ⟨_, by simpa [dtHO] using h2, rfl⟩
    | false => cases ha
  | .deep d, _, _, ⟨v, h1, h2⟩, a, ha => by obtain ⟨xs, e⟩ := RepM.lsts _ _ _ h2 a ha; exact ⟨_, e, rfl⟩
  | .mp d, _, _, ⟨h1, h2⟩, a, ha => by obtain ⟨xs, e⟩ := RepM.lsts _ _ _ h2 a ha; exact ⟨_, e, rfl⟩
  | .lent d, _, _, ⟨_, e⟩, a, ha => by subst e; cases ha
  | .view _, _, _, h, _, _ => h.elim
theorem EnvR.keep {T : Tx} {B : Bs} {H H' : Hp} {δ : Dl} {σ : St} (e : EnvR T B H δ σ) (s : Same H H') : EnvR T B H' δ σ where
  len := e.len
  same := Same.trans e.same s
  ex := by
    obtain ⟨F, f⟩ := e.ex
    refine ⟨F, fun i u q => (f.slot i u q).keep (Same.mono s) fun a ha => ?_, f.nd, f.ap, f.new⟩
    obtain ⟨w, e1, _⟩ := (f.slot i u q).there a ha
    rw [e1, s _ _ e1]

/-- a value made between H and H'; B: the entry's heap -/
def SlV (T : Tx) (B H H' : Hp) : Sl → V → Prop
  | .no, _ => False
  | .fr d, v => Rep T H' d v
  | .own ds, v => ∃ a xs, v = .ref a ∧ H a = none ∧ H' a = some (.lst xs) ∧ Reps T H' ds xs
  | .bor ds, v => ∃ a xs, v = .ref a ∧ Rd H' a (.lst xs) ∧ Reps T H' ds xs
  | .dt o kvs, v => ∃ a xs, v = .ref a ∧ (o = true → H a = none) ∧ H' a = some (.dT xs) ∧ KvR T H' kvs xs
  | .dk o kvs, v => ∃ a xs, v = .ref a ∧ (o = true → H a = none) ∧ H' a = some (.dK xs) ∧ KvR T H' kvs xs
  | .deep m, v => ∃ F, RepM T H' m v F ∧ F.Nodup ∧ ∀ a ∈ F, H a = none
  | .mp _, _ => False
  | .lent m, v => Same B H' ∧ RepV T B m v
  | .view m, v => RepV T H' m v
/-- what an exception bears -/
def PayR (T : Tx) (H : Hp) (c : Nat) (xs : List D) (d : Option Addr) : Prop :=
  (xs = [] ∧ d = none) ∨ ∃ x v dx, xs = [x] ∧ d = some dx ∧ H dx = some (.xd [(T.eF c, v)]) ∧ Rep T H x v
theorem PayR.mono {T : Tx} {H H' : Hp} {c : Nat} {xs : List D} {d : Option Addr} (m : Mono H H') (h : PayR T H c xs d) : PayR T H' c xs d := by
  rcases h with h | ⟨x, v, dx, e1, e2, e3, e4⟩
  · exact .inl h
  · exact .inr ⟨x, v, dx, e1, e2, m _ _ e3 rfl, Rep.mono m _ _ e4⟩

/-! ### freezing -/
section
variable {X : Cx} {pins : List (Addr × Obj)} {σ : St} {H : Hp} {s : Shared} {a : Addr} {xs : List V}
theorem freeze (I : Inv X pins σ H s) (h : H a = some (.lst xs)) : ∃ o, Inv X pins σ (upd H a (.frz o (.lst xs))) s := by
  obtain ⟨z, its, n, r, e⟩ : ObjOk X.prog X.w H s.heap a (.lst xs) := I.hok a _ h
  refine ⟨{ cls := .type "list", data := .seq its.toArray n }, ?_⟩
  have J := I.un (h' := s.heap) (t' := s.toks) (H' := upd H a (.frz { cls := .type "list", data := .seq its.toArray n } (.lst xs))) ?_ ?_
  · exact J
  · refine ⟨fun b o q _ _ _ => q, fun b o q _ _ _ => ⟨o.slots, q⟩, fun b o q nn _ => ?_, fun b o q _ => ⟨o, q⟩, fun b ys q => ?_, fun b o u q => ?_, fun b ps q => ⟨#[], ?_⟩⟩
    · rw [upd_ne (by rintro rfl; rw [h] at nn; cases nn)]; exact nn
    · rw [upd_ne (by rintro rfl; rw [h] at q; cases q)]; exact q
    · rw [upd_ne (by rintro rfl; rw [h] at q; cases q)]; exact q
    · rw [upd_ne (by rintro rfl; rw [h] at q; cases q), q]; simp
  · intro b o q
    by_cases hb : b = a
    · subst hb
      rw [upd_same] at q; cases q
      exact ⟨e, z, its, n, r, e⟩
    · rw [upd_ne hb] at q
      refine (I.hok b o q).stay (fun c v _ w => w) (fun c w => ?_) fun c ys w => ?_
      · rw [upd_ne (by rintro rfl; rw [h] at w; cases w)]; exact w
      · rw [upd_ne (by rintro rfl; rw [h] at w; cases w)]; exact w
theorem mono_frz {o : Obj} (h : H a = some (.lst xs)) : Mono H (upd H a (.frz o (.lst xs))) := fun b u e f => by
  rw [upd_ne (by rintro rfl; rw [h] at e; cases e; cases f)]; exact e
/-- several lists are frozen -/
theorem freezes (I : Inv X pins σ H s) : ∀ (F : List Addr), (∀ a ∈ F, ∃ xs, H a = some (.lst xs)) → ∃ H', Inv X pins σ H' s ∧ Mono H H' ∧ (∀ a, a ∉ F → H' a = H a) ∧ ∀ a ∈ F, ∀ xs, H a = some (.lst xs) → SqF H' a xs
  | [], _ => ⟨H, I, Mono.refl, fun _ _ => rfl, fun a ha => by cases ha⟩
  | a :: F, h => by
    obtain ⟨H1, J, m1, k1, f1⟩ := freezes I F fun b hb => h b (List.mem_cons_of_mem _ hb)
    by_cases ha : a ∈ F
    · exact ⟨H1, J, m1, fun b hb => k1 b fun z => hb (List.mem_cons_of_mem _ z), fun b hb xs e => by
        rcases List.mem_cons.mp hb with rfl | hb
        · exact f1 _ ha xs e
        · exact f1 _ hb xs e⟩
    · obtain ⟨xs, e⟩ := h a List.mem_cons_self
      have e1 : H1 a = some (.lst xs) := by rw [k1 a ha]; exact e
      obtain ⟨o, J2⟩ := freeze J e1
      refine ⟨_, J2, m1.trans (mono_frz e1), fun b hb => ?_, fun b hb ys e2 => ?_⟩
      · rw [upd_ne (by rintro rfl; exact hb List.mem_cons_self)]
        exact k1 b fun z => hb (List.mem_cons_of_mem _ z)
      · by_cases hba : b = a
        · subst hba
          rw [e] at e2; cases e2
          exact ⟨o, upd_same⟩
        · rcases List.mem_cons.mp hb with hb | hb
          · exact absurd hb hba
          · exact (f1 b hb ys e2).mono (mono_frz e1)
end
mutual
def M.toD : M → D
  | .fz d => d
  | .lst ms => .lst (M.toDs ms)
  | .tup ms => .tup (M.toDs ms)
  | .ins c ms => .ins c (M.toDs ms)
def M.toDs : List M → List D
  | [] => []
  | m :: ms => m.toD :: M.toDs ms
end
mutual
theorem RepM.frozen {T : Tx} {H H' : Hp} (mo : Mono H H') : ∀ (d : M) (v : V) (F : List Addr), (∀ a ∈ F, ∀ xs, H a = some (.lst xs) → SqF H' a xs) → RepM T H d v F → Rep T H' d.toD v
  | .fz d, _, _, _, ⟨h, _⟩ => Rep.mono mo _ _ h
  | .lst ms, _, _, q, ⟨a, xs, G, e, s, r, e2⟩ => ⟨a, xs, e, q a (by rw [e2]; exact List.mem_cons_self) xs s, RepMs.frozen mo ms xs G (fun b hb => q b (by rw [e2]; exact List.mem_cons_of_mem _ hb)) r⟩
  | .tup ms, _, F, q, ⟨a, xs, e, s, r⟩ => ⟨a, xs, e, SqU.mono mo s, RepMs.frozen mo ms xs F q r⟩
  | .ins c ms, _, F, q, ⟨a, dx, xs, e, s, l, r⟩ => ⟨a, dx, xs, e, mo _ _ s rfl, l, RepMs.frozen mo ms xs F q r⟩
theorem RepMs.frozen {T : Tx} {H H' : Hp} (mo : Mono H H') : ∀ (d : List M) (v : List V) (F : List Addr), (∀ a ∈ F, ∀ xs, H a = some (.lst xs) → SqF H' a xs) → RepMs T H d v F → Reps T H' (M.toDs d) v
  | [], _, _, _, ⟨e, _⟩ => e
  | m :: ms, _, _, q, ⟨x, xs, G1, G2, e, h, r, e2⟩ => ⟨x, xs, e, RepM.frozen mo m x G1 (fun b hb => q b (by rw [e2]; exact List.mem_append_left _ hb)) h, RepMs.frozen mo ms xs G2 (fun b hb => q b (by rw [e2]; exact List.mem_append_right _ hb)) r⟩
end
end TT
end
section
set_option maxRecDepth 100000
set_option maxHeartbeats 4000000
/-! U2: results, what it means that a result is kept, sequences. -/
namespace TT
open PySem PySem.Spec PyProof.Rows L2

/-- a result: a value, an exception; none: not known -/
inductive Out (α : Type) where
  | val (a : α) | exc (c : Nat) (xs : List D)
abbrev R (α : Type) := Option (Out α)
def ok {α : Type} (a : α) : R α := some (.val a)
def bnd {α β : Type} (r : R α) (k : α → R β) : R β :=
  match r with
  | none => none
  | some (.exc c xs) => some (.exc c xs)
  | some (.val a) => k a
@[simp] theorem bnd_ok {α β : Type} (a : α) (k : α → R β) : bnd (ok a) k = k a := rfl
@[simp] theorem bnd_none {α β : Type} (k : α → R β) : bnd none k = none := rfl
@[simp] theorem bnd_exc {α β : Type} (c : Nat) (xs : List D) (k : α → R β) : bnd (some (.exc c xs)) k = some (.exc c xs) := rfl
/-- from an option: none is «not known» -/
def opt {α : Type} (o : Option α) : R α := match o with
  | none => none
  | some a => ok a
@[simp] theorem opt_some {α : Type} (a : α) : opt (some a) = ok a := rfl
@[simp] theorem opt_none {α : Type} : opt (none : Option α) = none := rfl

/-- how a made value stands between two heaps -/
abbrev Rl (α β : Type) := Hp → Hp → α → β → Prop
structure RlOk {α β : Type} (r : Rl α β) : Prop where
  up : ∀ H H1 H' a v, Same H H1 → r H1 H' a v → r H H' a v
  keep : ∀ H H1 H2 a v, r H H1 a v → Same H1 H2 → r H H2 a v
def Sat {α β : Type} (T : Tx) (W : WX) (rel : Rl α β) (σ : St) (H : Hp) (r : R α) (Q : β → Hp → Prop) : Prop :=
  match r with
  | some (.val a) => ∀ v H', Same H H' → rel H H' a v → Q v H'
  | some (.exc c xs) => ∀ d H', Same H H' → PayR T H' c xs d → W (.ref (T.eA c)) d σ H'
  | none => False

section
variable {α β γ ε : Type} {T : Tx} {W : WX} {σ : St} {H : Hp} {rel : Rl α β} {rel2 : Rl γ ε}
theorem Sat.imp {r : R α} {Q Q' : β → Hp → Prop} (h : Sat T W rel σ H r Q) (k : ∀ v H', Same H H' → Q v H' → Q' v H') : Sat T W rel σ H r Q' := by
  unfold Sat at *
  split at h
  · exact fun v H' s q => k v H' s (h v H' s q)
  · exact h
  · exact h
theorem Sat.weak (o : RlOk rel) {r : R α} {Q : β → Hp → Prop} {H1 : Hp} (s : Same H H1) (h : Sat T W rel σ H r Q) : Sat T W rel σ H1 r Q := by
  unfold Sat at *
  split at h
  · exact fun v H' s' q => h v H' (Same.trans s s') (o.up _ _ _ _ _ s q)
  · exact fun d H' s' q => h d H' (Same.trans s s') q
  · exact h
/-- one after the other -/
theorem Sat.seq {r : R α} {k : α → R γ} {Q : ε → Hp → Prop} (h : Sat T W rel2 σ H (bnd r k) Q) :
    Sat T W rel σ H r fun v H1 => ∃ a, r = ok a ∧ rel H H1 a v ∧ Same H H1 ∧ Sat T W rel2 σ H (k a) Q := by
  match r with
  | none => exact h
  | some (.exc c xs) => exact h
  | some (.val a) => exact fun v H' s q => ⟨a, rfl, q, s, h⟩
end

/-! ### values, lists of values, truths -/
/-- how a value stands in a heap -/
def SlW (T : Tx) (B H : Hp) : Sl → V → Prop
  | .no, _ => False
  | .fr d, v => Rep T H d v
  | .own ds, v => ∃ a xs, v = .ref a ∧ H a = some (.lst xs) ∧ Reps T H ds xs
  | .bor ds, v => ∃ a xs, v = .ref a ∧ Rd H a (.lst xs) ∧ Reps T H ds xs
  | .dt _ kvs, v => ∃ a xs, v = .ref a ∧ H a = some (.dT xs) ∧ KvR T H kvs xs
  | .dk _ kvs, v => ∃ a xs, v = .ref a ∧ H a = some (.dK xs) ∧ KvR T H kvs xs
  | .deep m, v => ∃ F, RepM T H m v F
  | .mp _, _ => False
  | .lent m, v => Same B H ∧ RepV T B m v
  | .view m, v => RepV T H m v
theorem SlW.keep {T : Tx} {B H H' : Hp} (s : Same H H') : ∀ {a : Sl} {v : V}, SlW T B H a v → SlW T B H' a v
  | .no, _, h => h
  | .fr d, _, h => Rep.mono (Same.mono s) _ _ h
  | .own ds, _, ⟨a, xs, e, h, r⟩ => ⟨a, xs, e, s _ _ h, Reps.mono (Same.mono s) _ _ r⟩
  | .bor ds, _, ⟨a, xs, e, h, r⟩ => ⟨a, xs, e, Rd.same s h, Reps.mono (Same.mono s) _ _ r⟩
  | .dt _ ds, _, ⟨a, xs, e, h, r⟩ => ⟨a, xs, e, s _ _ h, r.mono (Same.mono s)⟩
  | .dk _ ds, _, ⟨a, xs, e, h, r⟩ => ⟨a, xs, e, s _ _ h, r.mono (Same.mono s)⟩
  | .deep m, _, ⟨F, h⟩ => ⟨F, h.same s⟩
  | .mp _, _, h => h
  | .lent m, _, ⟨e, h⟩ => ⟨Same.trans e s, h⟩
  | .view m, _, h => h.same s
theorem SlV.w {T : Tx} {B H H' : Hp} : ∀ {a : Sl} {v : V}, SlV T B H H' a v → SlW T B H' a v
  | .no, _, h => h
  | .fr d, _, h => h
  | .own ds, _, ⟨a, xs, e, _, h, r⟩ => ⟨a, xs, e, h, r⟩
  | .bor ds, _, ⟨a, xs, e, h, r⟩ => ⟨a, xs, e, h, r⟩
  | .dt _ ds, _, ⟨a, xs, e, _, h, r⟩ => ⟨a, xs, e, h, r⟩
  | .dk _ ds, _, ⟨a, xs, e, _, h, r⟩ => ⟨a, xs, e, h, r⟩
  | .deep m, _, ⟨F, h, _, _⟩ => ⟨F, h⟩
  | .mp _, _, h => h
  | .lent m, _, h => h
  | .view m, _, h => h
theorem okV (T : Tx) (B : Hp) : RlOk (SlV T B) where
  up := fun H H1 H' a v s h => by
    cases a with
    | own ds =>
      obtain ⟨a, xs, e, n, h, r⟩ := h
      exact ⟨a, xs, e, none_of s n, h, r⟩
    | dt o ds =>
      obtain ⟨a, xs, e, n, h, r⟩ := h
      exact ⟨a, xs, e, fun z => none_of s (n z), h, r⟩
    | dk o ds =>
      obtain ⟨a, xs, e, n, h, r⟩ := h
      exact ⟨a, xs, e, fun z => none_of s (n z), h, r⟩
    | deep m =>
      obtain ⟨F, h1, h2, h3⟩ := h
      exact ⟨F, h1, h2, fun a ha => none_of s (h3 a ha)⟩
    | no => exact h
    | fr d => exact h
    | bor ds => exact h
    | mp m => exact h
    | lent m => exact h
    | view m => exact h
  keep := fun H H1 H2 a v h s => by
    cases a with
    | own ds => obtain ⟨a, xs, e, n, h, r⟩ := h; exact ⟨a, xs, e, n, s _ _ h, Reps.mono (Same.mono s) _ _ r⟩
    | no => exact h
    | fr d => exact Rep.mono (Same.mono s) _ _ h
    | bor ds => obtain ⟨a, xs, e, h, r⟩ := h; exact ⟨a, xs, e, Rd.same s h, Reps.mono (Same.mono s) _ _ r⟩
    | dt o ds => obtain ⟨a, xs, e, n, h, r⟩ := h; exact ⟨a, xs, e, n, s _ _ h, r.mono (Same.mono s)⟩
    | dk o ds => obtain ⟨a, xs, e, n, h, r⟩ := h; exact ⟨a, xs, e, n, s _ _ h, r.mono (Same.mono s)⟩
    | deep m => obtain ⟨F, h1, h2, h3⟩ := h; exact ⟨F, h1.same s, h2, h3⟩
    | mp m => exact h
    | lent m => obtain ⟨h1, h2⟩ := h; exact ⟨Same.trans h1 s, h2⟩
    | view m => exact RepV.same s h
/-- lists of values, made one after the other -/
def SlVs (T : Tx) (B H H' : Hp) : List Sl → List V → Prop
  | [], vs => vs = []
  | a :: as, vs => ∃ v us Hm, vs = v :: us ∧ Same H Hm ∧ Same Hm H' ∧ SlV T B H Hm a v ∧ SlVs T B Hm H' as us
theorem SlVs.up {T : Tx} {B H H1 H' : Hp} (s : Same H H1) : ∀ {as : List Sl} {vs : List V}, SlVs T B H1 H' as vs → SlVs T B H H' as vs
  | [], _, h => h
  | a :: as, _, ⟨v, us, Hm, e, s1, s2, r, rr⟩ => ⟨v, us, Hm, e, Same.trans s s1, s2, (okV T B).up _ _ _ _ _ s r, rr⟩
theorem SlVs.keep {T : Tx} {B H1 H2 : Hp} (s : Same H1 H2) : ∀ {as : List Sl} {vs : List V} {H : Hp}, SlVs T B H H1 as vs → SlVs T B H H2 as vs
  | [], _, _, h => h
  | a :: as, _, _, ⟨v, us, Hm, e, s1, s2, r, rr⟩ => ⟨v, us, Hm, e, s1, Same.trans s2 s, r, rr.keep s⟩
theorem okVs (T : Tx) (B : Hp) : RlOk (SlVs T B) := ⟨fun H H1 H' as vs s h => h.up s, fun H H1 H2 as vs h s => h.keep s⟩
theorem SlVs.pr {T : Tx} {B H' : Hp} : ∀ {as : List Sl} {vs : List V} {H : Hp}, SlVs T B H H' as vs → Paired (fun a v => SlV T B H H' a v) as vs
  | [], _, _, h => by cases h; exact .nil
  | a :: as, _, _, ⟨v, us, Hm, e, s1, s2, r, rr⟩ => by
    subst e
    exact .cons ((okV T B).keep _ _ _ _ _ r s2) (Paired.mapP (SlVs.pr rr) fun a v q => (okV T B).up _ _ _ _ _ s1 q)
/-- what needs no heap -/
def RlEq {α : Type} : Rl α α := fun _ _ a v => v = a
theorem okEq {α : Type} : RlOk (RlEq (α := α)) := ⟨fun _ _ _ _ _ _ h => h, fun _ _ _ _ _ h _ => h⟩

abbrev Ev (α : Type) := Dl → R α
/-- a reading by an evaluator -/
def tR {α β : Type} (T : Tx) (W : WX) (B : Bs) (rel : Rl α β) (ev : Ev α) : St → Hp → (β → Hp → Prop) → Prop :=
  fun σ H Q => ∃ δ, EnvR T B H δ σ ∧ Sat T W rel σ H (ev δ) Q
abbrev tE (T : Tx) (W : WX) (B : Bs) (ev : Ev Sl) : TE := tR T W B (SlV T B.h) ev
abbrev tA (T : Tx) (W : WX) (B : Bs) (ev : Ev (List Sl)) : TA := tR T W B (SlVs T B.h) ev
abbrev tT (T : Tx) (W : WX) (B : Bs) (ev : Ev Bool) : TT := tR T W B RlEq ev

/-! ### weakening a reading -/
theorem PE.of {X : Cx} {e : Expr} {t t' : TE} (h : PE X e t) (k : ∀ σ H Q, t' σ H Q → t σ H Q) : PE X e t' := ⟨fun pins s σ H Q I q => h.run pins s σ H Q I (k σ H Q q)⟩
theorem PT.of {X : Cx} {e : Expr} {t t' : L2.TT} (h : PT X e t) (k : ∀ σ H Q, t' σ H Q → t σ H Q) : PT X e t' := ⟨fun pins s σ H Q I q => h.run pins s σ H Q I (k σ H Q q)⟩
theorem PW.of {X : Cx} {e : Expr} {t t' : L2.TT} (h : PW X e t) (k : ∀ σ H Q, t' σ H Q → t σ H Q) : PW X e t' := ⟨fun w pins s σ H Q I q => h.run w pins s σ H Q I (k σ H Q q)⟩
theorem PA.of {X : Cx} {e : List Expr} {t t' : TA} (h : PA X e t) (k : ∀ σ H Q, t' σ H Q → t σ H Q) : PA X e t' := ⟨fun pos pins s σ H Q I q => h.run pos pins s σ H Q I (k σ H Q q)⟩
theorem PS.of {X : Cx} {st : Stmt} {t t' : TS} (h : PS X st t) (k : ∀ D σ H, t' D σ H → t D σ H) : PS X st t' := ⟨fun pins s σ H D I q => h.run pins s σ H D I (k D σ H q)⟩
theorem PSs.of {X : Cx} {st : List Stmt} {t t' : TS} (h : PSs X st t) (k : ∀ D σ H, t' D σ H → t D σ H) : PSs X st t' := ⟨fun pins s σ H D I q => h.run pins s σ H D I (k D σ H q)⟩

/-! ### names, constants -/
section
variable {X : Cx} {T : Tx} {W : WX} {B : Bs}
/-- reading a slot: a list of the def's own is lent -/
def sVar (i : Nat) : Ev Sl := fun δ => match δ[i]? with
  | some (.fr d) => ok (.fr d)
  | some (.own ds) => ok (.bor ds)
  | some (.bor ds) => ok (.bor ds)
  | some (.dt _ kvs) => ok (.dt false kvs)
  | some (.dk _ kvs) => ok (.dk false kvs)
  | some (.deep m) => ok (.view m)
  | some (.mp m) => ok (.view m)
  | some (.lent m) => ok (.lent m)
  | _ => none
/-- what a slot is read as -/
def rdS : Sl → Option Sl
  | .fr d => some (.fr d)
  | .own ds => some (.bor ds)
  | .bor ds => some (.bor ds)
  | .dt _ kvs => some (.dt false kvs)
  | .dk _ kvs => some (.dk false kvs)
  | .deep m => some (.view m)
  | .mp m => some (.view m)
  | .lent m => some (.lent m)
  | _ => none
theorem sVar_eq (i : Nat) (δ : Dl) : sVar i δ = opt (δ[i]?.bind rdS) := by
  unfold sVar
  cases e : δ[i]? with
  | none => rfl
  | some s => cases s <;> rfl
theorem SlR.val {T : Tx} {B : Bs} {H : Hp} {i : Nat} {s z : Sl} {o : Option V} {F : List Addr} (sm : Same B.h H) (h : SlR T B H i s o F) (e : rdS s = some z) : ∃ v, o = some v ∧ SlV T B.h H H z v := by
  cases s with
  | no => cases e
  | fr d => cases e; obtain ⟨⟨v, h1, h2⟩, _⟩ := h; exact ⟨v, h1, h2⟩
  | own ds => cases e; obtain ⟨a, xs, e, h1, h2, _⟩ := h; exact ⟨_, e, a, xs, rfl, Or.inl h1, h2⟩
  | bor ds => cases e; obtain ⟨a, xs, e, h1, h2, _⟩ := h; exact ⟨_, e, a, xs, rfl, Rd.same sm h1, h2⟩
  | dt o ds => cases e; obtain ⟨a, xs, e, h1, h2, _⟩ := h; exact ⟨_, e, a, xs, rfl, (fun z => by cases z), h1.at sm, h2⟩
  | dk o ds => cases e; obtain ⟨a, xs, e, h1, h2, _⟩ := h; exact ⟨_, e, a, xs, rfl, (fun z => by cases z), h1.at sm, h2⟩
  | deep m => cases e; obtain ⟨v, h1, h2⟩ := h; exact ⟨v, h1, RepM.v _ _ _ h2⟩
  | mp m => cases e; obtain ⟨h1, h2⟩ := h; exact ⟨_, h1, RepM.v _ _ _ h2⟩
  | lent m => cases e; obtain ⟨⟨v, h1, h2⟩, _⟩ := h; exact ⟨v, h1, sm, h2⟩
  | view m => cases e
theorem get_slot {σ : St} {i : Nat} {v : V} (h : σ.getD i none = some v) : σ[i]? = some (some v) := by
  rw [List.getD_eq_getElem?_getD] at h
  cases e : σ[i]? with
  | none => rw [e] at h; cases h
  | some o => rw [e] at h; simp at h; rw [h]
theorem pe_sVar {i : Nat} {x : Str} {pos : Pos} (h : PE X (.Name x pos) (tVar i)) : PE X (.Name x pos) (tE T W B (sVar i)) := by
  refine PE.of h fun σ H Q ⟨δ, en, q⟩ => ?_
  rw [sVar_eq] at q
  cases e : δ[i]? with
  | none => rw [e] at q; exact q.elim
  | some s =>
    rw [e] at q
    have q : Sat T W (SlV T B.h) σ H (opt (rdS s)) Q := q
    cases e2 : rdS s with
    | none => rw [e2] at q; exact q.elim
    | some z =>
      rw [e2] at q
      obtain ⟨F, f⟩ := en.ex
      obtain ⟨v, e3, r⟩ := SlR.val en.same (f.slot i s e) e2
      exact ⟨v, get_slot e3, q v H Same.refl r⟩
def sC (d : D) : Ev Sl := fun _ => ok (.fr d)
/-- a constant: whatever stands for it in every heap -/
theorem pe_sC {e : Expr} {v : V} {d : D} (h : PE X e (tC v)) (r : ∀ H, Rep T H d v) : PE X e (tE T W B (sC d)) :=
  PE.of h fun σ H Q ⟨_, _, q⟩ => q v H Same.refl (r H)

/-! ### lists of expressions -/
def sNil : Ev (List Sl) := fun _ => ok []
def sCons (a : Ev Sl) (as : Ev (List Sl)) : Ev (List Sl) := fun δ => bnd (a δ) fun x => bnd (as δ) fun xs => ok (x :: xs)
theorem pa_sNil : PA X [] (tA T W B sNil) := PA.of pa_nil fun σ H Q ⟨_, _, q⟩ => q [] H Same.refl rfl
theorem seq2 {α1 β1 α2 β2 γ ε : Type} {rel1 : Rl α1 β1} {rel2 : Rl α2 β2} {rel3 : Rl γ ε} (o1 : RlOk rel1) (o2 : RlOk rel2) {σ : St} {H : Hp} {a : Ev α1} {b : Ev α2} {k : α1 → α2 → R γ} {Q : ε → Hp → Prop}
    (h : ∃ δ, EnvR T B H δ σ ∧ Sat T W rel3 σ H (bnd (a δ) fun x => bnd (b δ) fun y => k x y) Q) :
    tR T W B rel1 a σ H fun x H1 => tR T W B rel2 b σ H1 fun y H2 => ∃ u v, rel1 H H2 u x ∧ rel2 H H2 v y ∧ Same H H2 ∧ Sat T W rel3 σ H (k u v) Q := by
  obtain ⟨δ, en, q⟩ := h
  refine ⟨δ, en, (Sat.seq q).imp fun x H1 s1 ⟨u, e1, r1, _, q1⟩ => ⟨δ, en.keep s1, (Sat.weak o2 s1 (Sat.seq (rel := rel2) q1)).imp fun y H2 s2 ⟨v, e2, r2, _, q2⟩ => ?_⟩⟩
  exact ⟨u, v, o1.keep _ _ _ _ _ r1 s2, r2, Same.trans s1 s2, q2⟩
theorem pa_sCons {e : Expr} {es : List Expr} {a : Ev Sl} {as : Ev (List Sl)} (ha : PE X e (tE T W B a)) (hr : PA X es (tA T W B as)) (hs : starEach (e :: es) X.env = (false, eval e X.env) :: starEach es X.env) :
    PA X (e :: es) (tA T W B (sCons a as)) := by
  refine PA.of (pa_cons ha hr hs) fun σ H Q ⟨δ, en, q⟩ => ?_
  refine ⟨δ, en, (Sat.seq (rel := SlV T B.h) q).imp fun x H1 s1 ⟨u, e1, r1, _, q1⟩ => ⟨δ, en.keep s1, ?_⟩⟩
  have q1 : Sat T W (SlVs T B.h) σ H (bnd (as δ) fun xs => ok (u :: xs)) Q := q1
  cases e2 : as δ with
  | none => rw [e2] at q1; exact q1
  | some o =>
    rw [e2] at q1
    cases o with
    | exc c xs => exact fun d H' s' p => q1 d H' (Same.trans s1 s') p
    | val l => exact fun v H2 s2 r => q1 (x :: v) H2 (Same.trans s1 s2) ⟨x, v, H1, rfl, s1, s2, r1, r⟩
theorem seq1 {α1 β1 γ ε : Type} {rel1 : Rl α1 β1} {rel3 : Rl γ ε} {σ : St} {H : Hp} {a : Ev α1} {k : α1 → R γ} {Q : ε → Hp → Prop}
    (h : ∃ δ, EnvR T B H δ σ ∧ Sat T W rel3 σ H (bnd (a δ) k) Q) :
    tR T W B rel1 a σ H fun x H1 => ∃ u, rel1 H H1 u x ∧ Same H H1 ∧ (∃ δ, EnvR T B H1 δ σ) ∧ Sat T W rel3 σ H (k u) Q := by
  obtain ⟨δ, en, q⟩ := h
  exact ⟨δ, en, (Sat.seq q).imp fun x H1 s1 ⟨u, e1, r1, _, q1⟩ => ⟨u, r1, s1, ⟨δ, en.keep s1⟩, q1⟩⟩

/-! ### operators by values -/
/-- f: what the operation does to data -/
def rB (T : Tx) (B : Hp) (W : WX) (σ : St) (f : Sl → Sl → R Sl) : V → V → Hp → VK → Prop := fun x y H Q => ∃ a b, SlW T B H a x ∧ SlW T B H b y ∧ Sat T W (SlV T B) σ H (f a b) Q
/-- an operation that raises nothing (f's answer is a value or «not known») -/
def Plain (f : Sl → Sl → Option Sl) : Sl → Sl → R Sl := fun a b => opt (f a b)
def rB0 (T : Tx) (B : Hp) (f : Sl → Sl → Option Sl) : R2 := fun x y H Q => ∃ a b z, SlW T B H a x ∧ SlW T B H b y ∧ f a b = some z ∧ ∀ v H', Same H H' → SlV T B H H' z v → Q v H'
def sB (f : Sl → Sl → Option Sl) (a b : Ev Sl) : Ev Sl := fun δ => bnd (a δ) fun x => bnd (b δ) fun y => opt (f x y)
theorem sat_opt {σ : St} {H : Hp} {o : Option Sl} {Q : VK} (h : Sat T W (SlV T B.h) σ H (opt o) Q) : ∃ z, o = some z ∧ ∀ v H', Same H H' → SlV T B.h H H' z v → Q v H' := by
  cases o with
  | none => exact h.elim
  | some z => exact ⟨z, rfl, h⟩
theorem sB_read {f : Sl → Sl → Option Sl} {a b : Ev Sl} {σ : St} {H : Hp} {Q : VK} (h : tE T W B (sB f a b) σ H Q) : tOp (rB0 T B.h f) (tE T W B a) (tE T W B b) σ H Q := by
  obtain ⟨δ, en, q⟩ := seq2 (okV T B.h) (okV T B.h) h
  refine ⟨δ, en, q.imp fun x H1 s1 ⟨δ', en', q'⟩ => ⟨δ', en', q'.imp fun y H2 s2 ⟨u, v, r1, r2, s, k⟩ => ?_⟩⟩
  obtain ⟨z, e, k⟩ := sat_opt k
  exact ⟨u, v, z, r1.w, r2.w, e, fun w H' s' r => k w H' (Same.trans s s') ((okV T B.h).up _ _ _ _ _ s r)⟩
theorem pe_sB {op : Operator} {f : Sl → Sl → Option Sl} {ea eb : Expr} {a b : Ev Sl} {pos : Pos} (ho : OpR X (binaryOp op) (rB0 T B.h f)) (ha : PE X ea (tE T W B a)) (hb : PE X eb (tE T W B b)) : PE X (.BinOp ea op eb pos) (tE T W B (sB f a b)) :=
  PE.of (pe_op ho ha hb) fun σ H Q h => sB_read h
theorem pe_sCmp {op : CmpOp} {f : Sl → Sl → Option Sl} {ea eb : Expr} {a b : Ev Sl} {pos : Pos} (ho : OpR X (compareOp op) (rB0 T B.h f)) (ha : PE X ea (tE T W B a)) (hb : PE X eb (tE T W B b)) (hm : behindInMarks op eb = false) : PE X (.Compare ea [op] [eb] pos) (tE T W B (sB f a b)) :=
  PE.of (pe_cmpR ho ha hb hm) fun σ H Q h => sB_read h
/-- a truth that a value is -/
def asB : Sl → Option Bool
  | .fr (.bl b) => some b
  | _ => none
theorem SlV.bl {T : Tx} {B H H' : Hp} {a : Sl} {v : V} {b : Bool} (h : SlV T B H H' a v) (e : asB a = some b) : v = .bl b := by
  cases a with
  | fr d => cases d with
    | bl c => cases e; exact h
    | _ => cases e
  | _ => cases e
def sTest (a : Ev Sl) : Ev Bool := fun δ => bnd (a δ) fun x => opt (asB x)
theorem pt_sCmp {op : CmpOp} {f : Sl → Sl → Option Sl} {ea eb : Expr} {a b : Ev Sl} {pos : Pos} (ho : OpR X (compareOp op) (rB0 T B.h f)) (ha : PE X ea (tE T W B a)) (hb : PE X eb (tE T W B b)) (hm : behindInMarks op eb = false) :
    PT X (.Compare ea [op] [eb] pos) (tT T W B (sTest (sB f a b))) := by
  refine PT.of (pt_cmpR ho ha hb hm) fun σ H Q h => ?_
  have h2 := seq1 (T := T) (W := W) (B := B) (rel1 := SlV T B.h) (rel3 := RlEq) (a := sB f a b) (k := fun x => opt (asB x)) (Q := Q) h
  refine sB_read (a := a) (b := b) (Q := fun v H1 => ∃ k, v = .bl k ∧ Q k H1) ?_
  obtain ⟨δ, en, q⟩ := h2
  refine ⟨δ, en, q.imp fun v H1 s1 ⟨u, r, s, _, k⟩ => ?_⟩
  cases e : asB u with
  | none => rw [e] at k; exact k.elim
  | some c => rw [e] at k; exact ⟨c, r.bl e, k c H1 s rfl⟩
end
end TT
end
section
set_option maxRecDepth 100000
set_option maxHeartbeats 4000000
/-! U3: operators upon data. -/
namespace TT
open PySem PySem.Spec PyProof.Rows L2

def asI : Sl → Option Int
  | .fr (.int i) => some i
  | _ => none
def asS : Sl → Option Str
  | .fr (.str i) => some i
  | _ => none
/-- items that are all shared -/
def unfz : List M → Option (List D)
  | [] => some []
  | .fz d :: ms => (unfz ms).map (d :: ·)
  | _ :: _ => none
def mItems : M → Option (List D)
  | .lst ms => unfz ms
  | _ => none
/-- the items of a list, whoever's it is -/
def asL : Sl → Option (List D)
  | .fr (.lst xs) => some xs
  | .own xs => some xs
  | .bor xs => some xs
  | .deep m => mItems m
  | .lent m => mItems m
  | .view m => mItems m
  | _ => none
def asT : Sl → Option (List D)
  | .fr (.tup xs) => some xs
  | _ => none
section
variable {T : Tx} {B H H' : Hp} {a : Sl} {v : V}
theorem unfz_reps {T : Tx} {H : Hp} : ∀ {ms : List M} {ds : List D} {vs : List V}, RepVs T H ms vs → unfz ms = some ds → Reps T H ds vs
  | [], _, _, e, z => by cases z; exact e
  | .fz d :: ms, _, _, ⟨x, xs, e, h, r⟩, z => by
    obtain ⟨es, e1, rfl⟩ := Option.map_eq_some_iff.mp (show (unfz ms).map (d :: ·) = some _ from z)
    exact ⟨x, xs, e, h, unfz_reps r e1⟩
  | .lst _ :: ms, _, _, _, z => by cases z
  | .tup _ :: ms, _, _, _, z => by cases z
  | .ins _ _ :: ms, _, _, _, z => by cases z
theorem mItems_w {T : Tx} {H : Hp} {m : M} {ds : List D} {v : V} (h : RepV T H m v) (e : mItems m = some ds) : ∃ p xs, v = .ref p ∧ Rd H p (.lst xs) ∧ Reps T H ds xs := by
  cases m with
  | lst ms =>
    obtain ⟨a, xs, e1, s, r⟩ := h
    exact ⟨a, xs, e1, s, unfz_reps r e⟩
  | _ => cases e
theorem w_int {i : Int} (h : SlW T B H (.fr (.int i)) v) : v = .int i := h
theorem w_lst {ds : List D} (h : SlW T B H a v) (e : asL a = some ds) : ∃ p xs, v = .ref p ∧ Rd H p (.lst xs) ∧ Reps T H ds xs := by
  cases a with
  | no => cases e
  | fr d => cases d with
    | lst xs =>
      cases e
      obtain ⟨p, ys, e1, s, r⟩ := h
      exact ⟨p, ys, e1, s.rd, r⟩
    | _ => cases e
  | own xs =>
    cases e
    obtain ⟨p, ys, e1, s, r⟩ := h
    exact ⟨p, ys, e1, .inl s, r⟩
  | bor xs =>
    cases e
    exact h
  | dt _ _ => cases e
  | dk _ _ => cases e
  | mp _ => cases e
  | deep m => obtain ⟨F, h⟩ := h; exact mItems_w (RepM.v _ _ _ h) e
  | lent m => obtain ⟨sm, h⟩ := h; exact mItems_w (RepV.same sm h) e
  | view m => exact mItems_w h e
theorem w_tup {ds : List D} (h : SlW T B H a v) (e : asT a = some ds) : ∃ p xs, v = .ref p ∧ SqU H p xs ∧ Reps T H ds xs := by
  cases a with
  | fr d => cases d with
    | tup xs => cases e; exact h
    | _ => cases e
  | _ => cases e
/-- a new list -/
theorem v_own {ds : List D} {xs : List V} {p : Addr} (hp : H p = none) (r : Reps T H ds xs) : SlV T B H (upd H p (.lst xs)) (.own ds) (.ref p) := ⟨p, xs, rfl, hp, upd_same, Reps.mono (Same.mono (Same.upd hp)) _ _ r⟩
/-- a new tuple -/
theorem v_tup {ds : List D} {xs : List V} {p : Addr} (hp : H p = none) (r : Reps T H ds xs) : SlV T B H (upd H p (.tup xs)) (.fr (.tup ds)) (.ref p) := ⟨p, xs, rfl, upd_same, Reps.mono (Same.mono (Same.upd hp)) _ _ r⟩
end

section
variable {X : Cx} {T : Tx} {pins : List (Addr × Obj)} {σ : St} {H : Hp} {s : Shared} {p : Addr} {xs : List V}
theorem rd_lst (I : Inv X pins σ H s) (h : Rd H p (.lst xs)) : xs.length ≤ sizeLine ∧ ∃ (its : List Value) (n : Nat), Vals xs its ∧ xs.length = its.length ∧ s.heap.get? p = some { cls := .type "list", data := .seq its.toArray n } := by
  obtain ⟨z, its, n, r, e⟩ := h.ok I.hok
  exact ⟨z, its, n, r, r.length, e⟩
end

def fAdd : Sl → Sl → Option Sl
  | .fr (.int i), .fr (.int j) => some (.fr (.int (i + j)))
  | .fr (.str x), .fr (.str y) => if x.length + y.length ≤ sizeLine then some (.fr (.str (x ++ y))) else none
  | .fr (.tup xs), .fr (.tup ys) => if xs.length + ys.length ≤ sizeLine then some (.fr (.tup (xs ++ ys))) else none
  | a, b => match asL a, asL b with
    | some xs, some ys => if xs.length + ys.length ≤ sizeLine then some (.own (xs ++ ys)) else none
    | _, _ => none
def fSub : Sl → Sl → Option Sl
  | .fr (.int i), .fr (.int j) => some (.fr (.int (i - j)))
  | _, _ => none
/-- a product that the model makes: one factor small, or both together below a million bits -/
def mulOk (i j : Int) : Bool := decide (-(2 ^ 64) < i ∧ i < 2 ^ 64) || decide (-(2 ^ 64) < j ∧ j < 2 ^ 64) || decide (i.natAbs.log2 + j.natAbs.log2 < 1000000)
def fMul : Sl → Sl → Option Sl
  | .fr (.int i), .fr (.int j) => if mulOk i j then some (.fr (.int (i * j))) else none
  | _, _ => none
def fDiv : Sl → Sl → Option Sl
  | .fr (.int i), .fr (.int j) => if 0 < j ∧ j.natAbs.log2 < 9000 then some (.fr (.int (i / j))) else if j ≠ 0 ∧ j.natAbs < 1073741824 then some (.fr (.int (i.fdiv j))) else none
  | _, _ => none
def fMod : Sl → Sl → Option Sl
  | .fr (.int i), .fr (.int j) => if j ≠ 0 then some (.fr (.int (i.fmod j))) else none
  | _, _ => none
def fPow : Sl → Sl → Option Sl
  | .fr (.int i), .fr (.int j) => if 0 ≤ j ∧ j ≤ 1000000 ∧ i.natAbs < 2 ^ 64 then some (.fr (.int (i ^ j.toNat))) else none
  | _, _ => none

section
variable {X : Cx} {T : Tx} {B : Hp}
theorem op_fAdd (hK : X.K = T.K) : OpR X (binaryOp .Add) (rB0 T B fAdd) := by
  rintro pins s σ H x y v u Q I rx ry ⟨a, b, z, ra, rb, e, k⟩
  unfold fAdd at e
  split at e
  · cases e
    cases ra; cases rb
    exact op_add pins s σ H _ _ v u Q I rx ry ⟨_, _, rfl, rfl, k _ H Same.refl rfl⟩
  · split at e
    · rename_i hz
      cases e
      cases ra; cases rb
      exact op_add_str pins s σ H _ _ v u Q I rx ry ⟨_, _, rfl, rfl, hz, k _ H Same.refl rfl⟩
    · cases e
  · split at e
    · rename_i xs ys hz
      cases e
      obtain ⟨p, vs, rfl, hp, hr⟩ := w_tup ra rfl
      obtain ⟨q, us, rfl, hq, hs⟩ := w_tup rb rfl
      have hz' : vs.length + us.length ≤ sizeLine := by rw [← hr.length, ← hs.length]; exact hz
      refine op_catA pins s σ H _ _ v u Q I rx ry ⟨p, q, vs, us, rfl, rfl, hp.sq, hq.sq, hz', fun e1 => ?_, fun e1 e2 => ?_, fun e1 e2 w hw => ?_⟩
      · subst e1
        cases xs with
        | nil => exact k _ H Same.refl ⟨q, us, rfl, hq, hs⟩
        | cons d ds => obtain ⟨_, _, e3, _⟩ := hr; cases e3
      · subst e2
        cases ys with
        | nil => exact k _ H Same.refl ⟨p, vs, rfl, hp, by rw [List.append_nil]; exact hr⟩
        | cons d ds => obtain ⟨_, _, e3, _⟩ := hs; cases e3
      · exact k _ _ (Same.upd hw) (v_tup hw (hr.append hs))
    · cases e
  · split at e
    · rename_i xs ys e1 e2
      split at e
      · rename_i hz
        cases e
        obtain ⟨p, vs, rfl, hp, hr⟩ := w_lst ra e1
        obtain ⟨q, us, rfl, hq, hs⟩ := w_lst rb e2
        cases rx; cases ry
        obtain ⟨z1, its, n, r1, l1, g1⟩ := rd_lst I hp
        obtain ⟨z2, its2, n2, r2, l2, g2⟩ := rd_lst I hq
        refine PySem.P.add_list g1 g2 ?_ (by rw [List.size_toArray, List.size_toArray, ← l1, ← l2, ← hr.length, ← hs.length]; exact hz)
        rw [show its.toArray ++ its2.toArray = (its ++ its2).toArray by simp]
        have hf := I.hok.fresh (Nat.le_refl _)
        exact ⟨.ref _, _, I.lnew (t' := s.toks) (r1.append r2) (by rw [List.length_append, ← hr.length, ← hs.length]; exact hz), rfl, k _ _ (Same.upd hf) (v_own hf (hr.append hs))⟩
      · cases e
    · cases e
theorem op_fSub : OpR X (binaryOp .Sub) (rB0 T B fSub) := by
  rintro pins s σ H x y v u Q I rx ry ⟨a, b, z, ra, rb, e, k⟩
  unfold fSub at e
  split at e
  · cases e
    cases ra; cases rb
    exact op_sub pins s σ H _ _ v u Q I rx ry ⟨_, _, rfl, rfl, k _ H Same.refl rfl⟩
  · cases e
theorem op_fMul : OpR X (binaryOp .Mult) (rB0 T B fMul) := by
  rintro pins s σ H x y v u Q I rx ry ⟨a, b, z, ra, rb, e, k⟩
  unfold fMul at e
  split at e
  · split at e
    · rename_i i j hm
      cases e
      cases ra; cases rb
      unfold mulOk at hm
      rw [Bool.or_eq_true, Bool.or_eq_true, decide_eq_true_eq, decide_eq_true_eq, decide_eq_true_eq] at hm
      rcases hm with hm | hm
      · exact op_mul pins s σ H _ _ v u Q I rx ry ⟨_, _, rfl, rfl, hm, k _ H Same.refl rfl⟩
      · exact op_mulW pins s σ H _ _ v u Q I rx ry ⟨_, _, rfl, rfl, hm, k _ H Same.refl rfl⟩
    · cases e
  · cases e
theorem op_fDiv : OpR X (binaryOp .FloorDiv) (rB0 T B fDiv) := by
  rintro pins s σ H x y v u Q I rx ry ⟨a, b, z, ra, rb, e, k⟩
  unfold fDiv at e
  split at e
  · split at e
    · rename_i hm
      cases e
      cases ra; cases rb
      exact op_fdivW pins s σ H _ _ v u Q I rx ry ⟨_, _, rfl, rfl, hm, k _ H Same.refl rfl⟩
    · split at e
      · rename_i hm
        cases e
        cases ra; cases rb
        exact op_fdivN pins s σ H _ _ v u Q I rx ry ⟨_, _, rfl, rfl, hm, k _ H Same.refl rfl⟩
      · cases e
  · cases e
theorem op_fMod : OpR X (binaryOp .Mod) (rB0 T B fMod) := by
  rintro pins s σ H x y v u Q I rx ry ⟨a, b, z, ra, rb, e, k⟩
  unfold fMod at e
  split at e
  · split at e
    · rename_i hm
      cases e
      cases ra; cases rb
      exact op_modN pins s σ H _ _ v u Q I rx ry ⟨_, _, rfl, rfl, hm, k _ H Same.refl rfl⟩
    · cases e
  · cases e
theorem op_fPow : OpR X (binaryOp .Pow) (rB0 T B fPow) := by
  rintro pins s σ H x y v u Q I rx ry ⟨a, b, z, ra, rb, e, k⟩
  unfold fPow at e
  split at e
  · split at e
    · rename_i hm
      cases e
      cases ra; cases rb
      exact op_pow pins s σ H _ _ v u Q I rx ry ⟨_, _, rfl, rfl, hm, k _ H Same.refl rfl⟩
    · cases e
  · cases e
end

/-! ### comparisons -/
mutual
def toP : D → Option PyData
  | .non => some .none
  | .bl b => some (.bool b)
  | .int i => some (.int i)
  | .str s => some (.str s)
  | .lst xs => (toPs xs).map .list
  | .tup xs => (toPs xs).map .tuple
  | .ins _ _ => none
  | .exc _ _ => none
def toPs : List D → Option (List PyData)
  | [] => some []
  | d :: ds => match toP d, toPs ds with
    | some x, some xs => some (x :: xs)
    | _, _ => none
end
mutual
theorem rep_dp {T : Tx} {H : Hp} : ∀ (d : D) (v : V) (p : PyData), Rep T H d v → toP d = some p → Dp T.K H v p
  | .non, _, _, h, e => by cases e; cases h; exact .non
  | .bl b, _, _, h, e => by cases e; cases h; exact .bl b
  | .int i, _, _, h, e => by cases e; cases h; exact .int i
  | .str s, _, _, h, e => by cases e; cases h; exact .str s
  | .lst ds, _, _, h, e => by
    obtain ⟨ps, e1, rfl⟩ := Option.map_eq_some_iff.mp (show (toPs ds).map PyData.list = some _ from e)
    obtain ⟨a, xs, rfl, s, r⟩ := h
    exact .lst (.inl s.rd) (reps_dp ds xs ps r e1)
  | .tup ds, _, _, h, e => by
    obtain ⟨ps, e1, rfl⟩ := Option.map_eq_some_iff.mp (show (toPs ds).map PyData.tuple = some _ from e)
    obtain ⟨a, xs, rfl, s, r⟩ := h
    exact .tup s.sq (reps_dp ds xs ps r e1)
  | .ins _ _, _, _, _, e => by cases e
  | .exc _ _, _, _, _, e => by cases e
theorem reps_dp {T : Tx} {H : Hp} : ∀ (ds : List D) (vs : List V) (ps : List PyData), Reps T H ds vs → toPs ds = some ps → DpAll T.K H vs ps
  | [], _, _, h, e => by cases e; cases h; exact .nil
  | d :: ds, _, _, h, e => by
    obtain ⟨x, xs, rfl, h1, h2⟩ := h
    unfold toPs at e
    split at e
    · rename_i a b e1 e2
      cases e
      exact .cons (rep_dp d x _ h1 e1) (reps_dp ds xs _ h2 e2)
    · cases e
end
mutual
theorem repM_dp {T : Tx} {H : Hp} : ∀ (d : M) (v : V) (p : PyData), RepV T H d v → toP d.toD = some p → Dp T.K H v p
  | .fz d, v, p, h, e => rep_dp d v p h e
  | .lst ms, _, _, h, e => by
    obtain ⟨ps, e1, rfl⟩ := Option.map_eq_some_iff.mp (show (toPs (M.toDs ms)).map PyData.list = some _ from e)
    obtain ⟨a, xs, rfl, s, r⟩ := h
    exact .lst (.inl s) (repMs_dp ms xs ps r e1)
  | .tup ms, _, _, h, e => by
    obtain ⟨ps, e1, rfl⟩ := Option.map_eq_some_iff.mp (show (toPs (M.toDs ms)).map PyData.tuple = some _ from e)
    obtain ⟨a, xs, rfl, s, r⟩ := h
    exact .tup s.sq (repMs_dp ms xs ps r e1)
  | .ins _ _, _, _, _, e => by cases e
theorem repMs_dp {T : Tx} {H : Hp} : ∀ (ds : List M) (vs : List V) (ps : List PyData), RepVs T H ds vs → toPs (M.toDs ds) = some ps → DpAll T.K H vs ps
  | [], _, _, h, e => by cases e; cases h; exact .nil
  | d :: ds, _, _, h, e => by
    obtain ⟨x, xs, rfl, h1, h2⟩ := h
    have e : (match toP d.toD, toPs (M.toDs ds) with
      | some x, some xs => some (x :: xs)
      | _, _ => none) = some _ := e
    split at e
    · rename_i a b e1 e2
      cases e
      exact .cons (repM_dp d x _ h1 e1) (repMs_dp ds xs _ h2 e2)
    · cases e
end
/-- the data of a value, for == -/
def slP : Sl → Option PyData
  | .fr d => toP d
  | .own ds => (toPs ds).map .list
  | .bor ds => (toPs ds).map .list
  | .deep m => toP m.toD
  | .lent m => toP m.toD
  | .view m => toP m.toD
  | _ => none
theorem slw_dp {T : Tx} {B H : Hp} {a : Sl} {v : V} {p : PyData} (h : SlW T B H a v) (e : slP a = some p) : Dp T.K H v p := by
  cases a with
  | no => cases e
  | fr d => exact rep_dp d v p h e
  | own ds =>
    obtain ⟨ps, e1, rfl⟩ := Option.map_eq_some_iff.mp (show (toPs ds).map PyData.list = some _ from e)
    obtain ⟨p, ys, rfl, s, r⟩ := h
    exact .lst (.inl (.inl s)) (reps_dp ds ys ps r e1)
  | bor ds =>
    obtain ⟨ps, e1, rfl⟩ := Option.map_eq_some_iff.mp (show (toPs ds).map PyData.list = some _ from e)
    obtain ⟨p, ys, rfl, s, r⟩ := h
    exact .lst (.inl s) (reps_dp ds ys ps r e1)
  | dt _ _ => cases e
  | dk _ _ => cases e
  | mp _ => cases e
  | deep m => obtain ⟨F, h⟩ := h; exact repM_dp m v p (RepM.v _ _ _ h) e
  | lent m => obtain ⟨sm, h⟩ := h; exact repM_dp m v p (RepV.same sm h) e
  | view m => exact repM_dp m v p h e
def eqP (a b : Sl) : Option Bool := match slP a, slP b with
  | some x, some y => if SeqAt.shaped x && SeqAt.shaped y then some (PyData.eqv x y) else none
  | _, _ => none
def fEq (a b : Sl) : Option Sl := (eqP a b).map fun k => .fr (.bl k)
def fNe (a b : Sl) : Option Sl := (eqP a b).map fun k => .fr (.bl (!k))
def fLt : Sl → Sl → Option Sl
  | .fr (.int i), .fr (.int j) => some (.fr (.bl (decide (i < j))))
  | _, _ => none
def fLe : Sl → Sl → Option Sl
  | .fr (.int i), .fr (.int j) => some (.fr (.bl (decide (i ≤ j))))
  | _, _ => none
def fGt : Sl → Sl → Option Sl
  | .fr (.int i), .fr (.int j) => some (.fr (.bl (decide (j < i))))
  | _, _ => none
def fGe : Sl → Sl → Option Sl
  | .fr (.int i), .fr (.int j) => some (.fr (.bl (decide (j ≤ i))))
  | _, _ => none
/-- flat data: by == as values are -/
def flat : D → Bool
  | .non => true | .bl _ => true | .int _ => true | .str _ => true
  | _ => false
def eqF : D → D → Bool
  | .non, .non => true
  | .bl a, .bl b => a == b
  | .bl a, .int b => (if a then 1 else 0) == b
  | .int a, .bl b => a == (if b then 1 else 0)
  | .int a, .int b => a == b
  | .str a, .str b => a == b
  | _, _ => false
def asSq (a : Sl) : Option (List D) := match asL a with
  | some xs => some xs
  | none => asT a
def inQ : Sl → Sl → Option Bool
  | .fr (.str x), .fr (.str y) => some (!(Builtin.Str.occurrences y x 0 y.length 1).isEmpty)
  | .fr d, b => match asSq b with
    | some xs => if flat d && xs.all flat then some (xs.any fun y => eqF y d) else none
    | none => none
  | _, _ => none
def fIn (a b : Sl) : Option Sl := (inQ a b).map fun k => .fr (.bl k)
def fNotIn (a b : Sl) : Option Sl := (inQ a b).map fun k => .fr (.bl (!k))
/-- None or not -/
def noneQ : Sl → Option Bool
  | .fr .non => some true
  | .fr _ => some false
  | .own _ => some false
  | .bor _ => some false
  | _ => none
def fIs : Sl → Sl → Option Sl
  | a, .fr .non => (noneQ a).map fun k => .fr (.bl k)
  | _, _ => none
def fIsNot : Sl → Sl → Option Sl
  | a, .fr .non => (noneQ a).map fun k => .fr (.bl (!k))
  | _, _ => none

section
variable {X : Cx} {T : Tx} {B : Hp}
theorem fin_bool {H : Hp} {Q : VK} {k : Bool} {z : Sl} {o : Option Bool} {f : Bool → Sl} (e : o.map f = some z) (h : ∀ b, o = some b → f b = z → Q (.bl k) H) : Q (.bl k) H := by
  obtain ⟨b, e1, e2⟩ := Option.map_eq_some_iff.mp e
  exact h b e1 e2
theorem op_fEq (hK : X.K = T.K) (hu : X.A.units + 64 < cLine) : OpR X (compareOp .Eq) (rB0 T B fEq) := by
  rintro pins s σ H x y v u Q I rx ry ⟨a, b, z, ra, rb, e, k⟩
  obtain ⟨c, e1, rfl⟩ := Option.map_eq_some_iff.mp e
  unfold eqP at e1
  split at e1
  · rename_i p q ep eq
    split at e1
    · rename_i hs
      cases e1
      obtain ⟨h1, h2⟩ := Bool.and_eq_true_iff.mp hs
      exact op_eqD hu pins s σ H _ _ v u Q I rx ry ⟨p, q, by rw [hK]; exact slw_dp ra ep, by rw [hK]; exact slw_dp rb eq, h1, h2, k _ H Same.refl rfl⟩
    · cases e1
  · cases e1
theorem op_fNe (hK : X.K = T.K) (hu : X.A.units + 64 < cLine) : OpR X (compareOp .NotEq) (rB0 T B fNe) := by
  rintro pins s σ H x y v u Q I rx ry ⟨a, b, z, ra, rb, e, k⟩
  obtain ⟨c, e1, rfl⟩ := Option.map_eq_some_iff.mp e
  unfold eqP at e1
  split at e1
  · rename_i p q ep eq
    split at e1
    · rename_i hs
      cases e1
      obtain ⟨h1, h2⟩ := Bool.and_eq_true_iff.mp hs
      exact op_neD hu pins s σ H _ _ v u Q I rx ry ⟨p, q, by rw [hK]; exact slw_dp ra ep, by rw [hK]; exact slw_dp rb eq, h1, h2, k _ H Same.refl rfl⟩
    · cases e1
  · cases e1
theorem op_fLt : OpR X (compareOp .Lt) (rB0 T B fLt) := by
  rintro pins s σ H x y v u Q I rx ry ⟨a, b, z, ra, rb, e, k⟩
  unfold fLt at e
  split at e
  · cases e; cases ra; cases rb
    exact op_lt pins s σ H _ _ v u Q I rx ry ⟨_, _, rfl, rfl, k _ H Same.refl rfl⟩
  · cases e
theorem op_fLe : OpR X (compareOp .LtE) (rB0 T B fLe) := by
  rintro pins s σ H x y v u Q I rx ry ⟨a, b, z, ra, rb, e, k⟩
  unfold fLe at e
  split at e
  · cases e; cases ra; cases rb
    exact op_le pins s σ H _ _ v u Q I rx ry ⟨_, _, rfl, rfl, k _ H Same.refl rfl⟩
  · cases e
theorem op_fGt : OpR X (compareOp .Gt) (rB0 T B fGt) := by
  rintro pins s σ H x y v u Q I rx ry ⟨a, b, z, ra, rb, e, k⟩
  unfold fGt at e
  split at e
  · cases e; cases ra; cases rb
    exact op_gt pins s σ H _ _ v u Q I rx ry ⟨_, _, rfl, rfl, k _ H Same.refl rfl⟩
  · cases e
theorem op_fGe : OpR X (compareOp .GtE) (rB0 T B fGe) := by
  rintro pins s σ H x y v u Q I rx ry ⟨a, b, z, ra, rb, e, k⟩
  unfold fGe at e
  split at e
  · cases e; cases ra; cases rb
    exact op_ge pins s σ H _ _ v u Q I rx ry ⟨_, _, rfl, rfl, k _ H Same.refl rfl⟩
  · cases e
theorem flat_v {H : Hp} {d : D} {v : V} (h : Rep T H d v) (f : flat d = true) : flatV v = true := by
  cases d <;> first
    | (cases f; done)
    | (cases h; rfl)
theorem eqF_v {H : Hp} {d e : D} {v u : V} (h : Rep T H d v) (k : Rep T H e u) (f : flat d = true) (g : flat e = true) : eqV v u = eqF d e := by
  cases d <;> cases e <;> first
    | (cases f; done)
    | (cases g; done)
    | (cases h; cases k; rfl)
theorem flat_all {H : Hp} : ∀ {ds : List D} {vs : List V}, Reps T H ds vs → ds.all flat = true → vs.all flatV = true
  | [], _, h, _ => by cases h; rfl
  | d :: ds, _, ⟨x, xs, e, h, r⟩, f => by
    subst e
    rw [List.all_cons, Bool.and_eq_true] at f
    rw [List.all_cons, flat_v h f.1, flat_all r f.2]; rfl
theorem any_eqF {H : Hp} {d : D} {v : V} (k : Rep T H d v) (g : flat d = true) : ∀ {ds : List D} {vs : List V}, Reps T H ds vs → ds.all flat = true → inV v vs = ds.any fun y => eqF y d
  | [], _, h, _ => by cases h; rfl
  | c :: ds, _, ⟨x, xs, e, h, r⟩, f => by
    subst e
    rw [List.all_cons, Bool.and_eq_true] at f
    have ih := any_eqF k g r f.2
    unfold inV at *
    rw [List.any_cons, List.any_cons, ih, eqF_v h k f.1 g]
theorem w_sq {H : Hp} {a : Sl} {v : V} {ds : List D} (h : SlW T B H a v) (e : asSq a = some ds) : ∃ p xs, v = .ref p ∧ (SqL T.K H p xs ∨ SqT T.K H p xs) ∧ Reps T H ds xs := by
  unfold asSq at e
  split at e
  · rename_i e1
    cases e
    obtain ⟨p, xs, e2, s, r⟩ := w_lst h e1
    exact ⟨p, xs, e2, .inl (.inl s), r⟩
  · obtain ⟨p, xs, e2, s, r⟩ := w_tup h e
    exact ⟨p, xs, e2, .inr s.sq, r⟩
theorem op_fIn (hK : X.K = T.K) : OpR X (compareOp .In) (rB0 T B fIn) := by
  rintro pins s σ H x y v u Q I rx ry ⟨a, b, z, ra, rb, e, k⟩
  obtain ⟨c, e1, rfl⟩ := Option.map_eq_some_iff.mp e
  unfold inQ at e1
  split at e1
  · cases e1; cases ra; cases rb
    exact op_in_str pins s σ H _ _ v u Q I rx ry ⟨_, _, rfl, rfl, k _ H Same.refl rfl⟩
  · split at e1
    · rename_i ds es
      split at e1
      · rename_i hf
        cases e1
        obtain ⟨h1, h2⟩ := Bool.and_eq_true_iff.mp hf
        obtain ⟨p, xs, rfl, sq, r⟩ := w_sq rb es
        refine op_in_seq pins s σ H _ _ v u Q I rx ry ⟨p, xs, rfl, by rw [hK]; exact sq, flat_v ra h1, flat_all r h2, ?_⟩
        refine k _ H Same.refl ?_
        show V.bl (if false = true then _ else inV x xs) = _
        rw [if_neg Bool.false_ne_true, any_eqF ra h1 r h2]
      · cases e1
    · cases e1
  · cases e1
theorem op_fNotIn (hK : X.K = T.K) : OpR X (compareOp .NotIn) (rB0 T B fNotIn) := by
  rintro pins s σ H x y v u Q I rx ry ⟨a, b, z, ra, rb, e, k⟩
  obtain ⟨c, e1, rfl⟩ := Option.map_eq_some_iff.mp e
  unfold inQ at e1
  split at e1
  · cases e1; cases ra; cases rb
    exact L2.op_notin_str pins s σ H _ _ v u Q I rx ry ⟨_, _, rfl, rfl, k _ H Same.refl rfl⟩
  · split at e1
    · rename_i ds es
      split at e1
      · rename_i hf
        cases e1
        obtain ⟨h1, h2⟩ := Bool.and_eq_true_iff.mp hf
        obtain ⟨p, xs, rfl, sq, r⟩ := w_sq rb es
        refine op_notIn_seq pins s σ H _ _ v u Q I rx ry ⟨p, xs, rfl, by rw [hK]; exact sq, flat_v ra h1, flat_all r h2, ?_⟩
        refine k _ H Same.refl ?_
        show V.bl (if true = true then !inV x xs else _) = _
        rw [if_pos rfl, any_eqF ra h1 r h2]
      · cases e1
    · cases e1
  · cases e1
theorem none_w {H : Hp} {a : Sl} {v : V} {k : Bool} (h : SlW T B H a v) (e : noneQ a = some k) : decide (v = .non) = k := by
  cases a with
  | fr d =>
    cases d with
    | non => cases e; cases h; rfl
    | bl b => cases e; exact decide_eq_false fun z => by subst z; cases h
    | int b => cases e; exact decide_eq_false fun z => by subst z; cases h
    | str b => cases e; exact decide_eq_false fun z => by subst z; cases h
    | lst b => cases e; exact decide_eq_false fun z => by subst z; obtain ⟨_, _, z, _⟩ := h; cases z
    | tup b => cases e; exact decide_eq_false fun z => by subst z; obtain ⟨_, _, z, _⟩ := h; cases z
    | ins c b => cases e; exact decide_eq_false fun z => by subst z; obtain ⟨_, _, _, z, _⟩ := h; cases z
    | exc c b => cases e; exact decide_eq_false fun z => by subst z; obtain ⟨_, _, _, z, _⟩ := h; cases z
  | own b => cases e; exact decide_eq_false fun z => by subst z; obtain ⟨_, _, z, _⟩ := h; cases z
  | bor b => cases e; exact decide_eq_false fun z => by subst z; obtain ⟨_, _, z, _⟩ := h; cases z
  | _ => cases e
theorem op_fIs : OpR X (compareOp .Is) (rB0 T B fIs) := by
  rintro pins s σ H x y v u Q I rx ry ⟨a, b, z, ra, rb, e, k⟩
  unfold fIs at e
  split at e
  · obtain ⟨c, e1, rfl⟩ := Option.map_eq_some_iff.mp e
    cases rb
    exact op_isN pins s σ H _ _ v u Q I rx ry ⟨rfl, k _ H Same.refl (by rw [none_w ra e1]; rfl)⟩
  · cases e
theorem op_fIsNot : OpR X (compareOp .IsNot) (rB0 T B fIsNot) := by
  rintro pins s σ H x y v u Q I rx ry ⟨a, b, z, ra, rb, e, k⟩
  unfold fIsNot at e
  split at e
  · obtain ⟨c, e1, rfl⟩ := Option.map_eq_some_iff.mp e
    cases rb
    exact op_notN pins s σ H _ _ v u Q I rx ry ⟨rfl, k _ H Same.refl (by rw [none_w ra e1]; rfl)⟩
  · cases e
end
end TT
end
section
set_option maxRecDepth 100000
set_option maxHeartbeats 4000000
/-! U4: freezing what is made, displays, logic, places, cuts. -/
namespace TT
open PySem PySem.Spec PyProof.Rows L2

def fz : Sl → Option D
  | .fr d => some d
  | .own ds => some (.lst ds)
  | .deep m => some m.toD
  | _ => none
def fzs : List Sl → Option (List D)
  | [] => some []
  | a :: as => match fz a, fzs as with
    | some d, some ds => some (d :: ds)
    | _, _ => none
def RlD (T : Tx) : Rl D V := fun _ H' d v => Rep T H' d v
theorem okD (T : Tx) : RlOk (RlD T) := ⟨fun _ _ _ _ _ _ h => h, fun _ _ _ _ _ h s => Rep.mono (Same.mono s) _ _ h⟩
def RlDs (T : Tx) : Rl (List D) (List V) := fun _ H' ds vs => Reps T H' ds vs
theorem okDs (T : Tx) : RlOk (RlDs T) := ⟨fun _ _ _ _ _ _ h => h, fun _ _ _ _ _ h s => Reps.mono (Same.mono s) _ _ h⟩

section
variable {X : Cx} {T : Tx} {pins : List (Addr × Obj)} {σ : St} {s : Shared}
/-- between two heaps some new lists were frozen -/
structure Fz (H H1 H2 : Hp) : Prop where
  same : Same H H2
  keep : ∀ a u, H1 a = some u → H2 a = some u ∨ ∃ xs, u = .lst xs ∧ H a = none ∧ SqF H2 a xs
theorem Fz.mono {H H1 H2 : Hp} (f : Fz H H1 H2) : Mono H1 H2 := fun a u e z => by
  rcases f.keep a u e with h | ⟨xs, rfl, _⟩
  · exact h
  · cases z
theorem Fz.lst {H H1 H2 : Hp} (f : Fz H H1 H2) (a : Addr) (xs : List V) (e : H1 a = some (.lst xs)) : H2 a = some (.lst xs) ∨ (H a = none ∧ SqF H2 a xs) := by
  rcases f.keep a _ e with h | ⟨ys, e1, h⟩
  · exact .inl h
  · cases e1; exact .inr h
theorem Fz.refl {H H1 : Hp} (h : Same H H1) : Fz H H1 H1 := ⟨h, fun _ _ e => .inl e⟩
theorem Fz.trans {H H1 H2 H3 : Hp} (a : Fz H H1 H2) (b : Fz H H2 H3) : Fz H H1 H3 := ⟨b.same, fun x u e => by
  rcases a.keep x u e with h | ⟨xs, rfl, n, h⟩
  · exact b.keep x u h
  · exact .inr ⟨xs, rfl, n, h.mono b.mono⟩⟩
theorem fz_list {H H1 : Hp} {a : Addr} {xs : List V} (I : Inv X pins σ H1 s) (sm : Same H H1) (n : H a = none) (h : H1 a = some (.lst xs)) : ∃ H2, Inv X pins σ H2 s ∧ Fz H H1 H2 ∧ SqF H2 a xs := by
  obtain ⟨o, J⟩ := freeze I h
  refine ⟨_, J, ⟨fun b u e => ?_, fun b u e => ?_⟩, o, upd_same⟩
  · rw [upd_ne (ne_of_none e n)]; exact sm b u e
  · by_cases hb : b = a
    · subst hb
      rw [h] at e; cases e
      exact .inr ⟨xs, rfl, n, o, upd_same⟩
    · exact .inl (by rw [upd_ne hb]; exact e)
theorem fz_place {H H1 H2 : Hp} {a : Addr} {xs : List V} (I : Inv X pins σ H2 s) (f : Fz H H1 H2) (n : H a = none) (h : H1 a = some (.lst xs)) : ∃ H3, Inv X pins σ H3 s ∧ Fz H H1 H3 ∧ Fz H H2 H3 ∧ SqF H3 a xs := by
  rcases f.lst a xs h with h2 | ⟨_, h2⟩
  · obtain ⟨H3, J, g, q⟩ := fz_list I f.same n h2
    exact ⟨H3, J, f.trans g, g, q⟩
  · exact ⟨H2, I, f, Fz.refl f.same, h2⟩
theorem fz_places {H H1 : Hp} : ∀ {F : List Addr} {H2 : Hp}, Inv X pins σ H2 s → Fz H H1 H2 → (∀ a ∈ F, H a = none) → (∀ a ∈ F, ∃ xs, H1 a = some (.lst xs)) → ∃ H3, Inv X pins σ H3 s ∧ Fz H H1 H3 ∧ Fz H H2 H3 ∧ ∀ a ∈ F, ∀ xs, H1 a = some (.lst xs) → SqF H3 a xs
  | [], H2, I, f, _, _ => ⟨H2, I, f, Fz.refl f.same, fun a ha => by cases ha⟩
  | a :: F, H2, I, f, n, l => by
    obtain ⟨xs, e⟩ := l a List.mem_cons_self
    obtain ⟨H3, I3, f3, g3, q3⟩ := fz_place I f (n a List.mem_cons_self) e
    obtain ⟨H4, I4, f4, g4, q4⟩ := fz_places (F := F) I3 f3 (fun b hb => n b (List.mem_cons_of_mem _ hb)) (fun b hb => l b (List.mem_cons_of_mem _ hb))
    refine ⟨H4, I4, f4, g3.trans g4, fun b hb ys e2 => ?_⟩
    rcases List.mem_cons.mp hb with rfl | hb
    · rw [e] at e2; cases e2
      exact q3.mono g4.mono
    · exact q4 b hb ys e2
theorem fz_any {B H H1 H2 : Hp} {a : Sl} {d : D} {v : V} (I : Inv X pins σ H2 s) (f : Fz H H1 H2) (r : SlV T B H H1 a v) (e : fz a = some d) : ∃ H3, Inv X pins σ H3 s ∧ Fz H H1 H3 ∧ Fz H H2 H3 ∧ Rep T H3 d v := by
  cases a with
  | fr d' => cases e; exact ⟨H2, I, f, Fz.refl f.same, Rep.mono f.mono _ _ r⟩
  | own ds =>
    cases e
    obtain ⟨p, xs, rfl, n, h, r⟩ := r
    obtain ⟨H3, J, g, g2, q⟩ := fz_place I f n h
    exact ⟨H3, J, g, g2, p, xs, rfl, q, Reps.mono g.mono _ _ r⟩
  | deep m =>
    cases e
    obtain ⟨F, h1, h2, h3⟩ := r
    obtain ⟨H3, J, g, g2, q⟩ := fz_places I f h3 (RepM.lsts _ _ _ h1)
    exact ⟨H3, J, g, g2, RepM.frozen g.mono _ _ _ q h1⟩
  | _ => cases e
theorem fz_one {B H H1 : Hp} {a : Sl} {d : D} {v : V} (I : Inv X pins σ H1 s) (sm : Same H H1) (r : SlV T B H H1 a v) (e : fz a = some d) : ∃ H2, Inv X pins σ H2 s ∧ Fz H H1 H2 ∧ Rep T H2 d v := by
  obtain ⟨H3, J, f, _, q⟩ := fz_any I (Fz.refl sm) r e
  exact ⟨H3, J, f, q⟩
theorem fz_all {B H H1 : Hp} : ∀ {as : List Sl} {ds : List D} {vs : List V} {H2 : Hp}, Inv X pins σ H2 s → Fz H H1 H2 → Paired (fun a v => SlV T B H H1 a v) as vs → fzs as = some ds → ∃ H3, Inv X pins σ H3 s ∧ Fz H H1 H3 ∧ Fz H H2 H3 ∧ Reps T H3 ds vs
  | [], _, _, H2, I, f, .nil, e => by cases e; exact ⟨H2, I, f, Fz.refl f.same, rfl⟩
  | a :: as, _, _, H2, I, f, .cons (b := v) r rr, e => by
    unfold fzs at e
    split at e
    · rename_i d ds e1 e2
      cases e
      obtain ⟨H3, I3, f3, m3, r3⟩ := fz_any I f r e1
      obtain ⟨H4, I4, f4, m4, r4⟩ := fz_all (H2 := H3) I3 f3 rr e2
      exact ⟨H4, I4, f4, m3.trans m4, v, _, rfl, Rep.mono m4.mono _ _ r3, r4⟩
    · cases e
end

/-! ### evaluators that freeze -/
def sF (a : Ev Sl) : Ev D := fun δ => bnd (a δ) fun x => opt (fz x)
def sFs (as : Ev (List Sl)) : Ev (List D) := fun δ => bnd (as δ) fun x => opt (fzs x)
abbrev tD (T : Tx) (W : WX) (B : Bs) (ev : Ev D) : TE := tR T W B (RlD T) ev
abbrev tDs (T : Tx) (W : WX) (B : Bs) (ev : Ev (List D)) : TA := tR T W B (RlDs T) ev
section
variable {X : Cx} {T : Tx} {W : WX} {B : Bs}
theorem sat_optG {α β γ : Type} {rel : Rl α β} {σ : St} {H : Hp} {o : Option α} {Q : β → Hp → Prop} (h : Sat T W rel σ H (opt o) Q) : ∃ z, o = some z ∧ ∀ v H', Same H H' → rel H H' z v → Q v H' := by
  cases o with
  | none => exact h.elim
  | some z => exact ⟨z, rfl, h⟩
theorem pe_sF {e : Expr} {a : Ev Sl} (h : PE X e (tE T W B a)) : PE X e (tD T W B (sF a)) := by
  refine ⟨fun pins s σ H Q I q => ?_⟩
  have q2 := seq1 (T := T) (W := W) (B := B) (rel1 := SlV T B.h) (rel3 := RlD T) (a := a) (k := fun x => opt (fz x)) (Q := Q) q
  refine thn (h.run pins s σ H _ I q2) fun u s1 ⟨v, H1, I1, r, x, rx, sm, _, k⟩ => ?_
  cases e1 : fz x with
  | none => rw [e1] at k; exact k.elim
  | some d =>
    rw [e1] at k
    obtain ⟨H2, I2, f, rd⟩ := fz_one I1 sm rx e1
    exact ⟨v, H2, I2, r, k v H2 f.same rd⟩
theorem pa_sFs {es : List Expr} {as : Ev (List Sl)} (h : PA X es (tA T W B as)) : PA X es (tDs T W B (sFs as)) := by
  refine ⟨fun pos pins s σ H Q I q => ?_⟩
  have q2 := seq1 (T := T) (W := W) (B := B) (rel1 := SlVs T B.h) (rel3 := RlDs T) (a := as) (k := fun x => opt (fzs x)) (Q := Q) q
  refine thn (h.run pos pins s σ H _ I q2) fun u s1 ⟨v, H1, I1, r, x, rx, sm, _, k⟩ => ?_
  cases e1 : fzs x with
  | none => rw [e1] at k; exact k.elim
  | some d =>
    rw [e1] at k
    obtain ⟨H2, I2, f, _, rd⟩ := fz_all I1 (Fz.refl sm) rx.pr e1
    exact ⟨v, H2, I2, r, k v H2 f.same rd⟩

/-! ### displays -/
def sLst (as : Ev (List Sl)) : Ev Sl := fun δ => bnd (sFs as δ) fun ds => if ds.length ≤ sizeLine then ok (.own ds) else none
def sTup (as : Ev (List Sl)) : Ev Sl := fun δ => bnd (sFs as δ) fun ds => if ds.length ≤ sizeLine then ok (.fr (.tup ds)) else none
theorem pe_sLst {es : List Expr} {as : Ev (List Sl)} {pos : Pos} (h : PA X es (tA T W B as)) : PE X (.List es pos) (tE T W B (sLst as)) := by
  refine PE.of (pe_lst (pa_sFs h)) fun σ H Q q => ?_
  obtain ⟨δ, en, q2⟩ := seq1 (T := T) (W := W) (B := B) (rel1 := RlDs T) (rel3 := SlV T B.h) (a := sFs as) (k := fun ds => if ds.length ≤ sizeLine then ok (.own ds) else none) (Q := Q) q
  refine ⟨δ, en, q2.imp fun vs H1 s1 ⟨ds, r, sm, _, k⟩ => ?_⟩
  by_cases hz : ds.length ≤ sizeLine
  · rw [if_pos hz] at k
    refine ⟨by rw [← Reps.length r]; exact hz, fun p hp => k _ _ (Same.trans sm (Same.upd hp)) ?_⟩
    exact (okV T B.h).up _ _ _ _ _ sm (v_own hp r)
  · rw [if_neg hz] at k; exact k.elim
theorem pe_sTup {es : List Expr} {as : Ev (List Sl)} {pos : Pos} {x1} (h : PA X es (tA T W B as)) : PE X (.Tuple es x1 pos) (tE T W B (sTup as)) := by
  refine PE.of (pe_tup (pa_sFs h)) fun σ H Q q => ?_
  obtain ⟨δ, en, q2⟩ := seq1 (T := T) (W := W) (B := B) (rel1 := RlDs T) (rel3 := SlV T B.h) (a := sFs as) (k := fun ds => if ds.length ≤ sizeLine then ok (.fr (.tup ds)) else none) (Q := Q) q
  refine ⟨δ, en, q2.imp fun vs H1 s1 ⟨ds, r, sm, _, k⟩ => ?_⟩
  by_cases hz : ds.length ≤ sizeLine
  · rw [if_pos hz] at k
    exact ⟨by rw [← Reps.length r]; exact hz, fun p hp => k _ _ (Same.trans sm (Same.upd hp)) (v_tup (B := B.h) hp r)⟩
  · rw [if_neg hz] at k; exact k.elim

/-! ### truth, and, or, not -/
def tru : Sl → Option Bool
  | .fr .non => some false
  | .fr (.bl b) => some b
  | .fr (.int i) => some (i != 0)
  | .fr (.str s) => if s.length ≤ sizeLine then some (s.length != 0) else none
  | .fr (.lst xs) => some !xs.isEmpty
  | .fr (.tup xs) => some !xs.isEmpty
  | .own xs => some !xs.isEmpty
  | .bor xs => some !xs.isEmpty
  | .lent (.lst ms) => some !ms.isEmpty
  | .view (.lst ms) => some !ms.isEmpty
  | _ => none
theorem repVs_empty {T : Tx} {H : Hp} {ds : List M} {vs : List V} (r : RepVs T H ds vs) : (!vs.isEmpty) = !ds.isEmpty := by
  cases ds with
  | nil => cases r; rfl
  | cons d ds => obtain ⟨x, xs, e, _⟩ := r; subst e; rfl
theorem reps_empty {H : Hp} {ds : List D} {vs : List V} (r : Reps T H ds vs) : (!vs.isEmpty) = !ds.isEmpty := by
  cases ds with
  | nil => cases r; rfl
  | cons d ds => obtain ⟨x, xs, e, _, _⟩ := r; subst e; rfl
theorem tru_v (hK : X.K = T.K) {B H : Hp} {a : Sl} {v : V} {k : Bool} (h : SlW T B H a v) (e : tru a = some k) : TruV X.K v H k := by
  cases a with
  | no => cases e
  | fr d => cases d with
    | non => cases e; cases h; rfl
    | bl b => cases e; cases h; rfl
    | int b => cases e; cases h; rfl
    | str b =>
      have e : (if b.length ≤ sizeLine then some (b.length != 0) else none) = some k := e
      split at e
      · rename_i hz
        cases e; cases h
        refine ⟨hz, ?_⟩
        cases b.length <;> simp <;> omega
      · cases e
    | lst xs =>
      cases e
      obtain ⟨p, ys, rfl, s, r⟩ := h
      exact .inl ⟨ys, .inl s.rd, (reps_empty r).symm⟩
    | tup xs =>
      cases e
      obtain ⟨p, ys, rfl, s, r⟩ := h
      exact .inr (.inl ⟨ys, by rw [hK]; exact s.sq, (reps_empty r).symm⟩)
    | ins c fs => cases e
    | exc c fs => cases e
  | own xs =>
    cases e
    obtain ⟨p, ys, rfl, s, r⟩ := h
    exact .inl ⟨ys, .inl (.inl s), (reps_empty r).symm⟩
  | bor xs =>
    cases e
    obtain ⟨p, ys, rfl, s, r⟩ := h
    exact .inl ⟨ys, .inl s, (reps_empty r).symm⟩
  | lent m => cases m with
    | lst ms =>
      cases e
      obtain ⟨sm, p, ys, rfl, s, r⟩ := h
      exact .inl ⟨ys, .inl (Rd.same sm s), (repVs_empty r).symm⟩
    | _ => cases e
  | view m => cases m with
    | lst ms =>
      cases e
      obtain ⟨p, ys, rfl, s, r⟩ := h
      exact .inl ⟨ys, .inl s, (repVs_empty r).symm⟩
    | _ => cases e
  | _ => cases e
def sTru (a : Ev Sl) : Ev Bool := fun δ => bnd (a δ) fun x => opt (tru x)
theorem pt_sTru (hK : X.K = T.K) {e : Expr} {a : Ev Sl} (h : PE X e (tE T W B a)) (he : ∀ whole, isTrue e X.env whole = (do let v ← whole; standAt e.pos; holding [v] (truthy v))) : PT X e (tT T W B (sTru a)) := by
  refine PT.of (pt_truth h he) fun σ H Q q => ?_
  obtain ⟨δ, en, q2⟩ := seq1 (T := T) (W := W) (B := B) (rel1 := SlV T B.h) (rel3 := RlEq) (a := a) (k := fun x => opt (tru x)) (Q := Q) q
  refine ⟨δ, en, q2.imp fun v H1 s1 ⟨x, r, sm, _, k⟩ => ?_⟩
  cases e1 : tru x with
  | none => rw [e1] at k; exact k.elim
  | some c => rw [e1] at k; exact ⟨c, tru_v hK r.w e1, k c H1 sm rfl⟩
def sAnd (a b : Ev Bool) : Ev Bool := fun δ => bnd (a δ) fun x => if x = true then b δ else ok false
def sOr (a b : Ev Bool) : Ev Bool := fun δ => bnd (a δ) fun x => if x = true then ok true else b δ
def sNot (a : Ev Bool) : Ev Bool := fun δ => bnd (a δ) fun x => ok (!x)
theorem pt_sNot {a : Expr} {ta : Ev Bool} {pos : Pos} (ha : PT X a (tT T W B ta)) : PT X (.UnaryOp .Not a pos) (tT T W B (sNot ta)) := by
  refine PT.of (pt_not ha) fun σ H Q q => ?_
  obtain ⟨δ, en, q2⟩ := seq1 (T := T) (W := W) (B := B) (rel1 := RlEq) (rel3 := RlEq) (a := ta) (k := fun x => ok (!x)) (Q := Q) q
  refine ⟨δ, en, q2.imp fun v H1 s1 ⟨x, r, sm, _, k⟩ => ?_⟩
  cases r
  exact k _ H1 sm rfl
theorem pw_sOne {op : BoolOp} {a : Expr} {ta : Ev Bool} {pos : Pos} (ha : PT X a (tT T W B ta)) : PW X (.BoolOp op [a] pos) (tT T W B ta) := by
  cases op
  · exact pw_and1 ha
  · exact pw_or1 ha
theorem pw_sAnd {a b : Expr} {rest : List Expr} {ta tb : Ev Bool} {pos : Pos} (ha : PT X a (tT T W B ta)) (hb : PW X (.BoolOp .And (b :: rest) pos) (tT T W B tb)) : PW X (.BoolOp .And (a :: b :: rest) pos) (tT T W B (sAnd ta tb)) := by
  refine PW.of (pw_and ha hb) fun σ H Q q => ?_
  obtain ⟨δ, en, q⟩ := q
  refine ⟨δ, en, (Sat.seq (rel := RlEq) q).imp fun v H1 s1 ⟨x, e, r, sm, k⟩ => ?_⟩
  cases r
  cases v with
  | true => exact ⟨δ, en.keep s1, Sat.weak okEq s1 (by simpa using k)⟩
  | false => exact k false H1 s1 rfl
theorem pw_sOr {a b : Expr} {rest : List Expr} {ta tb : Ev Bool} {pos : Pos} (ha : PT X a (tT T W B ta)) (hb : PW X (.BoolOp .Or (b :: rest) pos) (tT T W B tb)) : PW X (.BoolOp .Or (a :: b :: rest) pos) (tT T W B (sOr ta tb)) := by
  refine PW.of (pw_or ha hb) fun σ H Q q => ?_
  obtain ⟨δ, en, q⟩ := q
  refine ⟨δ, en, (Sat.seq (rel := RlEq) q).imp fun v H1 s1 ⟨x, e, r, sm, k⟩ => ?_⟩
  cases r
  cases v with
  | true => exact k true H1 s1 rfl
  | false => exact ⟨δ, en.keep s1, Sat.weak okEq s1 (by simpa using k)⟩
/-- .. as values: all but the last truths -/
def sAndV (a b : Ev Sl) : Ev Sl := fun δ => bnd (a δ) fun x => bnd (opt (asB x)) fun c => if c = true then b δ else ok (.fr (.bl false))
def sOrV (a b : Ev Sl) : Ev Sl := fun δ => bnd (a δ) fun x => bnd (opt (asB x)) fun c => if c = true then ok (.fr (.bl true)) else b δ
theorem pe_sOne {op : BoolOp} {a : Expr} {ta : Ev Sl} {pos : Pos} (ha : PE X a (tE T W B ta)) : PE X (.BoolOp op [a] pos) (tE T W B ta) := pe_one ha
theorem pe_sAndV {a b : Expr} {rest : List Expr} {ta tb : Ev Sl} {pos : Pos} (ha : PE X a (tE T W B ta)) (hb : PE X (.BoolOp .And (b :: rest) pos) (tE T W B tb)) : PE X (.BoolOp .And (a :: b :: rest) pos) (tE T W B (sAndV ta tb)) := by
  refine PE.of (pe_and ha hb) fun σ H Q q => ?_
  obtain ⟨δ, en, q⟩ := q
  refine ⟨δ, en, (Sat.seq (rel := SlV T B.h) q).imp fun v H1 s1 ⟨x, e, r, sm, k⟩ => ?_⟩
  cases e1 : asB x with
  | none => rw [e1] at k; exact k.elim
  | some c =>
    rw [e1] at k
    refine ⟨c, r.bl e1, ?_⟩
    cases c with
    | true => exact ⟨δ, en.keep s1, Sat.weak (okV T B.h) s1 (by simpa using k)⟩
    | false => exact k _ H1 s1 rfl
theorem pe_sOrV {a b : Expr} {rest : List Expr} {ta tb : Ev Sl} {pos : Pos} (ha : PE X a (tE T W B ta)) (hb : PE X (.BoolOp .Or (b :: rest) pos) (tE T W B tb)) : PE X (.BoolOp .Or (a :: b :: rest) pos) (tE T W B (sOrV ta tb)) := by
  refine PE.of (pe_or ha hb) fun σ H Q q => ?_
  obtain ⟨δ, en, q⟩ := q
  refine ⟨δ, en, (Sat.seq (rel := SlV T B.h) q).imp fun v H1 s1 ⟨x, e, r, sm, k⟩ => ?_⟩
  cases e1 : asB x with
  | none => rw [e1] at k; exact k.elim
  | some c =>
    rw [e1] at k
    refine ⟨c, r.bl e1, ?_⟩
    cases c with
    | true => exact k _ H1 s1 rfl
    | false => exact ⟨δ, en.keep s1, Sat.weak (okV T B.h) s1 (by simpa using k)⟩
def sNotV (a : Ev Sl) : Ev Sl := fun δ => bnd (a δ) fun x => bnd (opt (asB x)) fun c => ok (.fr (.bl (!c)))
theorem pe_sNotV {a : Expr} {ta : Ev Sl} {pos : Pos} (ha : PE X a (tE T W B ta)) : PE X (.UnaryOp .Not a pos) (tE T W B (sNotV ta)) := by
  refine PE.of (pe_not ha) fun σ H Q q => ?_
  obtain ⟨δ, en, q⟩ := q
  refine ⟨δ, en, (Sat.seq (rel := SlV T B.h) q).imp fun v H1 s1 ⟨x, e, r, sm, k⟩ => ?_⟩
  cases e1 : asB x with
  | none => rw [e1] at k; exact k.elim
  | some c => rw [e1] at k; exact ⟨c, r.bl e1, k _ H1 s1 rfl⟩
def sIf (t : Ev Bool) (a b : Ev Sl) : Ev Sl := fun δ => bnd (t δ) fun x => if x = true then a δ else b δ
theorem pe_sIf {c a b : Expr} {t : Ev Bool} {ta tb : Ev Sl} {pos : Pos} (hc : PT X c (tT T W B t)) (ha : PE X a (tE T W B ta)) (hb : PE X b (tE T W B tb)) : PE X (.IfExp c a b pos) (tE T W B (sIf t ta tb)) := by
  refine PE.of (pe_ifExp hc ha hb) fun σ H Q q => ?_
  obtain ⟨δ, en, q⟩ := q
  refine ⟨δ, en, (Sat.seq (rel := RlEq) q).imp fun v H1 s1 ⟨x, e, r, sm, k⟩ => ?_⟩
  cases r
  cases v with
  | true => exact ⟨δ, en.keep s1, Sat.weak (okV T B.h) s1 (by simpa using k)⟩
  | false => exact ⟨δ, en.keep s1, Sat.weak (okV T B.h) s1 (by simpa using k)⟩
def sNeg (a : Ev Sl) : Ev Sl := fun δ => bnd (a δ) fun x => bnd (opt (asI x)) fun i => ok (.fr (.int (-i)))
theorem SlV.int {H H' : Hp} {a : Sl} {v : V} {i : Int} (h : SlV T B.h H H' a v) (e : asI a = some i) : v = .int i := by
  cases a with
  | fr d => cases d with
    | int c => cases e; exact h
    | _ => cases e
  | _ => cases e
theorem pe_sNeg {a : Expr} {ta : Ev Sl} {pos : Pos} (ha : PE X a (tE T W B ta)) : PE X (.UnaryOp .USub a pos) (tE T W B (sNeg ta)) := by
  refine PE.of (pe_un un_neg ha) fun σ H Q q => ?_
  obtain ⟨δ, en, q⟩ := q
  refine ⟨δ, en, (Sat.seq (rel := SlV T B.h) q).imp fun v H1 s1 ⟨x, e, r, sm, k⟩ => ?_⟩
  cases e1 : asI x with
  | none => rw [e1] at k; exact k.elim
  | some c => rw [e1] at k; exact ⟨c, r.int e1, k _ H1 s1 rfl⟩

/-! ### places, cuts -/
/-- a part of what is looked at, of what is lent -/
def mView : M → Sl
  | .fz d => .fr d
  | m => .view m
def mLent : M → Sl
  | .fz d => .fr d
  | m => .lent m
def mSq : M → Option (List M)
  | .lst ms => some ms
  | .tup ms => some ms
  | _ => none
/-- x[i] -/
def fIdx : Sl → Sl → Option Sl
  | .view m, .fr (.int i) => (mSq m).bind fun ms => (atI ms i).map mView
  | .lent m, .fr (.int i) => (mSq m).bind fun ms => (atI ms i).map mLent
  | .fr (.str s), .fr (.int i) => if s.length ≤ sizeLine then (atI s.cps.toList i).map fun c => .fr (.str ⟨#[c]⟩) else none
  | a, .fr (.int i) => match asSq a with
    | some ds => (atI ds i).map fun d => .fr d
    | none => none
  | _, _ => none
theorem reps_at {H : Hp} {ds : List D} {vs : List V} {i : Int} {d : D} (r : Reps T H ds vs) (e : atI ds i = some d) : ∃ v, atI vs i = some v ∧ Rep T H d v := by
  unfold atI at e ⊢
  rw [← Reps.length r]
  cases e1 : ixN ds.length i with
  | none => rw [e1] at e; cases e
  | some j =>
    rw [e1] at e
    exact Reps.get r e
theorem repVs_at {T : Tx} {H : Hp} {ds : List M} {vs : List V} {i : Int} {d : M} (r : RepVs T H ds vs) (e : atI ds i = some d) : ∃ v, atI vs i = some v ∧ RepV T H d v := by
  unfold atI at e ⊢
  rw [← RepVs.length r]
  cases e1 : ixN ds.length i with
  | none => rw [e1] at e; cases e
  | some j =>
    rw [e1] at e
    exact RepVs.get r e
theorem view_of {T : Tx} {B H H' : Hp} {m : M} {v : V} (r : RepV T H' m v) : SlV T B H H' (mView m) v := by
  cases m <;> exact r
theorem lent_of {T : Tx} {B H H' : Hp} {m : M} {v : V} (r : RepV T B m v) (q : Same B H') : SlV T B H H' (mLent m) v := by
  cases m with
  | fz d => exact RepV.same q r
  | _ => exact ⟨q, r⟩
theorem mSq_w {T : Tx} {H : Hp} {m : M} {ms : List M} {v : V} (r : RepV T H m v) (e : mSq m = some ms) : ∃ p xs, v = .ref p ∧ (Rd H p (.lst xs) ∨ H p = some (.tup xs)) ∧ RepVs T H ms xs := by
  cases m with
  | lst ns => cases e; obtain ⟨a, xs, e1, s, r⟩ := r; exact ⟨a, xs, e1, .inl s, r⟩
  | tup ns => cases e; obtain ⟨a, xs, e1, s, r⟩ := r; exact ⟨a, xs, e1, .inr s, r⟩
  | _ => cases e
theorem ix_fIdx (hK : X.K = T.K) : IxR X (rB0 T B.h fIdx) := by
  rintro e1 e2 pins s σ H x y v u Q I rx ry ⟨a, b, z, ra, rb, e, k⟩ hs
  unfold fIdx at e
  split at e
  · rename_i m i
    obtain ⟨ms, e3, e4⟩ := Option.bind_eq_some_iff.mp e
    obtain ⟨d, e5, rfl⟩ := Option.map_eq_some_iff.mp e4
    obtain ⟨p, xs, rfl, sq, r⟩ := mSq_w ra e3
    obtain ⟨w, e6, rw⟩ := repVs_at r e5
    cases rb
    rcases sq with sq | sq
    · exact ix_list e1 e2 pins s σ H _ _ v u Q I rx ry ⟨p, xs, _, w, rfl, rfl, (.inl sq), e6, k _ H Same.refl (view_of rw)⟩ hs
    · exact ix_tup e1 e2 pins s σ H _ _ v u Q I rx ry ⟨p, xs, _, w, rfl, rfl, SqT.of sq, e6, k _ H Same.refl (view_of rw)⟩ hs
  · rename_i m i
    obtain ⟨ms, e3, e4⟩ := Option.bind_eq_some_iff.mp e
    obtain ⟨d, e5, rfl⟩ := Option.map_eq_some_iff.mp e4
    obtain ⟨sm, ra⟩ := ra
    obtain ⟨p, xs, rfl, sq, r⟩ := mSq_w ra e3
    obtain ⟨w, e6, rw⟩ := repVs_at r e5
    cases rb
    rcases sq with sq | sq
    · exact ix_list e1 e2 pins s σ H _ _ v u Q I rx ry ⟨p, xs, _, w, rfl, rfl, (.inl (Rd.same sm sq)), e6, k _ H Same.refl (lent_of rw sm)⟩ hs
    · exact ix_tup e1 e2 pins s σ H _ _ v u Q I rx ry ⟨p, xs, _, w, rfl, rfl, SqT.of (sm _ _ sq), e6, k _ H Same.refl (lent_of rw sm)⟩ hs
  · split at e
    · rename_i hz
      obtain ⟨c, e3, rfl⟩ := Option.map_eq_some_iff.mp e
      cases ra; cases rb
      exact ix_str e1 e2 pins s σ H _ _ v u Q I rx ry ⟨_, _, c, rfl, rfl, hz, e3, k _ H Same.refl rfl⟩ hs
    · cases e
  · split at e
    · rename_i ds es
      obtain ⟨d, e3, rfl⟩ := Option.map_eq_some_iff.mp e
      obtain ⟨p, xs, rfl, sq, r⟩ := w_sq ra es
      obtain ⟨w, e4, rw⟩ := reps_at r e3
      cases rb
      rcases sq with sq | sq
      · exact ix_list e1 e2 pins s σ H _ _ v u Q I rx ry ⟨p, xs, _, w, rfl, rfl, by rw [hK]; exact sq, e4, k _ H Same.refl rw⟩ hs
      · exact ix_tup e1 e2 pins s σ H _ _ v u Q I rx ry ⟨p, xs, _, w, rfl, rfl, by rw [hK]; exact sq, e4, k _ H Same.refl rw⟩ hs
    · cases e
  · cases e
theorem pe_sIdx (hK : X.K = T.K) {ea eb : Expr} {a b : Ev Sl} {pos : Pos} (ha : PE X ea (tE T W B a)) (hb : PE X eb (tE T W B b)) (hs : PlainIx eb) : PE X (.Subscript ea eb pos) (tE T W B (sB fIdx a b)) :=
  PE.of (pe_ix (ix_fIdx hK) ha hb hs) fun σ H Q h => sB_read h
end
end TT
end
section
set_option maxRecDepth 100000
set_option maxHeartbeats 4000000
/-! U5: cuts, built-ins by name, methods of built-in types, calls of defs. -/
namespace TT
open PySem PySem.Spec PyProof.Rows L2

/-! ### cuts -/
def cutD {α : Type} (xs : List α) (lo hi : Option Int) : List α := (xs.drop (HT.sIx xs.length 0 lo)).take (HT.sIx xs.length xs.length hi - HT.sIx xs.length 0 lo)
theorem cutD_V {xs : List V} {lo hi : Option Int} : cutV xs lo hi = cutD xs lo hi := rfl
theorem reps_cut {T : Tx} {H : Hp} {ds : List D} {vs : List V} (r : Reps T H ds vs) (lo hi : Option Int) : Reps T H (cutD ds lo hi) (cutD vs lo hi) := by
  unfold cutD
  rw [Reps.length r]
  exact (r.drop _).take _
def fSlc : Sl → Option Int → Option Int → Option Sl
  | .fr (.str s), lo, hi => if s.length ≤ sizeLine then some (.fr (.str (cutS s lo hi))) else none
  | .fr (.tup ds), lo, hi => some (.fr (.tup (cutD ds lo hi)))
  | a, lo, hi => match asL a with
    | some ds => some (.own (cutD ds lo hi))
    | none => none
/-- a part: left out, or a whole number -/
abbrev EvO := Dl → R (Option Int)
def oNo : EvO := fun _ => ok none
def oYes (a : Ev Sl) : EvO := fun δ => bnd (a δ) fun x => bnd (opt (asI x)) fun i => ok (some i)
def sSlc (a : Ev Sl) (lo hi : EvO) : Ev Sl := fun δ => bnd (a δ) fun x => bnd (lo δ) fun l => bnd (hi δ) fun h => opt (fSlc x l h)
abbrev tO (T : Tx) (W : WX) (B : Bs) (ev : EvO) : St → Hp → (Option Int → Hp → Prop) → Prop := tR T W B RlEq ev
section
variable {X : Cx} {T : Tx} {W : WX} {B : Bs}
theorem PO.of {e : Option Expr} {t t' : TO} (h : PO X e t) (k : ∀ σ H Q, t' σ H Q → t σ H Q) : PO X e t' := ⟨fun pins s σ H Q I q => h.run pins s σ H Q I (k σ H Q q)⟩
theorem po_oNo : PO X none (tO T W B oNo) := PO.of po_none fun σ H Q ⟨_, _, q⟩ => q none H Same.refl rfl
theorem po_oYes {e : Expr} {a : Ev Sl} (h : PE X e (tE T W B a)) : PO X (some e) (tO T W B (oYes a)) := by
  refine PO.of (po_some h) fun σ H Q q => ?_
  obtain ⟨δ, en, q⟩ := q
  refine ⟨δ, en, (Sat.seq (rel := SlV T B.h) q).imp fun v H1 s1 ⟨x, e, r, sm, k⟩ => ?_⟩
  cases e1 : asI x with
  | none => rw [e1] at k; exact k.elim
  | some c => rw [e1] at k; exact ⟨c, r.int e1, k _ H1 s1 rfl⟩
def rSlT' (T : Tx) (B : Hp) : V → Option Int → Option Int → Hp → VK → Prop := fun x lo hi H Q => ∃ a z, SlW T B H a x ∧ fSlc a lo hi = some z ∧ ∀ v H', Same H H' → SlV T B H H' z v → Q v H'
theorem sl_fSlc (hK : X.K = T.K) : L2.SlR X (rSlT' T B.h) := by
  rintro pins s σ H x v vl vu lo hi sl Q I rx hs pl pu ⟨a, z, ra, e, k⟩
  unfold fSlc at e
  split at e
  · split at e
    · rename_i hz
      cases e; cases ra
      exact sl_str pins s σ H _ v vl vu lo hi sl Q I rx hs pl pu ⟨_, rfl, hz, k _ H Same.refl rfl⟩
    · cases e
  · cases e
    obtain ⟨p, xs, rfl, sq, r⟩ := w_tup ra rfl
    refine sl_tupA pins s σ H _ v vl vu lo hi sl Q I rx hs pl pu ⟨p, xs, rfl, sq.sq, fun hw => ?_, fun hw p hp => ?_⟩
    · refine k _ H Same.refl ⟨p, xs, rfl, sq, ?_⟩
      have h2 := reps_cut r lo hi
      have e2 : cutD xs lo hi = xs := by unfold cutD; rw [hw.1, hw.2]; simp
      rw [e2] at h2
      exact h2
    · exact k _ _ (Same.upd hp) (v_tup hp (reps_cut r lo hi))
  · split at e
    · rename_i ds es
      cases e
      obtain ⟨p, xs, rfl, sq, r⟩ := w_lst ra es
      exact sl_list pins s σ H _ v vl vu lo hi sl Q I rx hs pl pu ⟨p, xs, rfl, .inl sq, fun p hp => k _ _ (Same.upd hp) (v_own hp (reps_cut r lo hi))⟩
    · cases e
theorem pe_sSlc (hK : X.K = T.K) {e : Expr} {l h : Option Expr} {a : Ev Sl} {lo hi : EvO} {p2 pos : Pos} (he : PE X e (tE T W B a)) (hl : PO X l (tO T W B lo)) (hh : PO X h (tO T W B hi)) :
    PE X (.Subscript e (.Slice l h none p2) pos) (tE T W B (sSlc a lo hi)) := by
  refine PE.of (pe_slice (sl_fSlc (B := B) hK) he hl hh) fun σ H Q q => ?_
  obtain ⟨δ, en, q⟩ := q
  refine ⟨δ, en, (Sat.seq (rel := SlV T B.h) q).imp fun v H1 s1 ⟨x, e, r, sm, k⟩ => ?_⟩
  refine ⟨δ, en.keep s1, (Sat.weak okEq s1 (Sat.seq (rel := RlEq) k)).imp fun o H2 s2 ⟨lo', e2, r2, sm2, k2⟩ => ?_⟩
  refine ⟨δ, (en.keep s1).keep s2, (Sat.weak okEq sm2 (Sat.seq (rel := RlEq) k2)).imp fun o2 H3 s3 ⟨hi', e3, r3, sm3, k3⟩ => ?_⟩
  cases r2; cases r3
  obtain ⟨z, e4, k4⟩ := sat_opt k3
  exact ⟨x, z, SlW.keep (Same.trans s2 s3) r.w, e4, fun w H' s' q => k4 w H' (Same.trans sm3 s') ((okV T B.h).up _ _ _ _ _ sm3 q)⟩

/-! ### built-ins by name -/
def rC (T : Tx) (B : Hp) (f : List Sl → Option Sl) : List V → Hp → VK → Prop := fun xs H Q => ∃ as z, Paired (SlW T B H) as xs ∧ f as = some z ∧ ∀ v H', Same H H' → SlV T B H H' z v → Q v H'
def sBi (f : List Sl → Option Sl) (as : Ev (List Sl)) : Ev Sl := fun δ => bnd (as δ) fun l => opt (f l)
theorem SlVs.w {H H' : Hp} {as : List Sl} {vs : List V} (h : SlVs T B.h H H' as vs) : Paired (SlW T B.h H') as vs := Paired.mapP h.pr fun a v q => q.w
theorem sBi_read {f : List Sl → Option Sl} {as : Ev (List Sl)} {σ : St} {H : Hp} {Q : VK} (h : tE T W B (sBi f as) σ H Q) : tCB (rC T B.h f) (tA T W B as) σ H Q := by
  obtain ⟨δ, en, q⟩ := h
  refine ⟨δ, en, (Sat.seq (rel := SlVs T B.h) q).imp fun v H1 s1 ⟨x, e, r, sm, k⟩ => ?_⟩
  obtain ⟨z, e4, k4⟩ := sat_opt k
  exact ⟨x, z, SlVs.w r, e4, fun w H' s' q => k4 w H' (Same.trans sm s') ((okV T B.h).up _ _ _ _ _ sm q)⟩
theorem pe_sBi {id : String} {x : Str} {p pos : Pos} {e : Expr} {es : List Expr} {f : List Sl → Option Sl} {as : Ev (List Sl)} (hc : CallR X (.builtin id) (rC T B.h f)) (hg : Gl X x) (hm : X.mg x = none) (hv : bootBuiltins x = some (.builtin id)) (ha : PA X (e :: es) (tA T W B as)) (hn : x ≠ "__name__") (hdb : (x == ("__debug__" : Str)) = false)
    (he : starEach (e :: es) X.env = (false, eval e X.env) :: starEach es X.env) (hpl : (backTo pos (starEach es X.env)).any (·.1) = false) : PE X (.Call (.Name x p) (e :: es) [] pos) (tE T W B (sBi f as)) :=
  PE.of (pe_callB hc hg hm hv ha hn hdb he hpl) fun σ H Q h => sBi_read h
theorem pe_sTy {id : String} {x : Str} {p pos : Pos} {e : Expr} {es : List Expr} {f : List Sl → Option Sl} {as : Ev (List Sl)} (hc : CallR X (.type id) (rC T B.h f)) (hg : Gl X x) (hm : X.mg x = none) (hv : bootBuiltins x = some (.type id)) (ha : PA X (e :: es) (tA T W B as)) (hn : x ≠ "__name__") (hdb : (x == ("__debug__" : Str)) = false)
    (he : starEach (e :: es) X.env = (false, eval e X.env) :: starEach es X.env) (hpl : (backTo pos (starEach es X.env)).any (·.1) = false) : PE X (.Call (.Name x p) (e :: es) [] pos) (tE T W B (sBi f as)) :=
  PE.of (pe_callTy hc hg hm hv ha hn hdb he hpl) fun σ H Q h => sBi_read h

/-! ### methods of built-in types -/
def rM (T : Tx) (B : Hp) (f : Sl → List Sl → Option Sl) : V → List V → Hp → VK → Prop := fun x xs H Q => ∃ a as z, SlW T B H a x ∧ Paired (SlW T B H) as xs ∧ f a as = some z ∧ ∀ v H', Same H H' → SlV T B H H' z v → Q v H'
/-- of which type a receiver is -/
def isTy (ty : String) : Sl → Bool
  | .fr (.str _) => ty == "str"
  | .fr (.int _) => ty == "int"
  | .fr (.lst _) => ty == "list"
  | .own _ => ty == "list"
  | .bor _ => ty == "list"
  | _ => false
def sSm (ty : String) (f : Sl → List Sl → Option Sl) (o : Ev Sl) (as : Ev (List Sl)) : Ev Sl := fun δ => bnd (o δ) fun x => if isTy ty x = true then bnd (as δ) fun l => opt (f x l) else none
theorem tyV_of {ty : String} {a : Sl} {v : V} {B H : Hp} (K : PySem.W.Frag) (h : SlW T B H a v) (e : isTy ty a = true) : tyV K ty v H := by
  have key : ∀ {n : String}, (ty == n) = true → ty = n := fun h => by simpa using h
  cases a with
  | fr d => cases d with
    | str x => cases h; exact key e
    | int x => cases h; exact key e
    | lst x => obtain ⟨p, xs, rfl, s, r⟩ := h; exact .inl ⟨key e, xs, .inl s.rd⟩
    | _ => cases e
  | own x => obtain ⟨p, xs, rfl, s, r⟩ := h; exact .inl ⟨key e, xs, .inl (.inl s)⟩
  | bor x => obtain ⟨p, xs, rfl, s, r⟩ := h; exact .inl ⟨key e, xs, .inl s⟩
  | _ => cases e
theorem pe_sSm {ty id : String} {name : Str} {o e : Expr} {es : List Expr} {f : Sl → List Sl → Option Sl} {ev : Ev Sl} {as : Ev (List Sl)} {apos cpos : Pos} (pa : PlainAttrs ty) (slot : Slot ty name id) (hty : typeOf (.builtin id) = pure (.type "method_descriptor")) (hm : MtR X id (rM T B.h f))
    (ho : PE X o (tE T W B ev)) (ha : PA X (e :: es) (tA T W B as)) (hbase : attributeBase o name X.env (eval o X.env) = eval o X.env)
    (hfew : ((backTo cpos (starEach (e :: es) X.env)).all (fun x => !x.1) && (backToKw cpos (keywordEach [] X.env)).all (fun x => x.1.isSome)
      && decide ((e :: es).length + ([] : List Keyword).length + (if ([] : List Keyword).isEmpty then 0 else 1) < 30)) = true)
    (hline : (apos.endLine == cpos.line) = true) (hs : starEach (e :: es) X.env = (false, eval e X.env) :: starEach es X.env) (hplain : (backTo cpos (starEach es X.env)).any (·.1) = false) :
    PE X (.Call (.Attribute o name apos) (e :: es) [] cpos) (tE T W B (sSm ty f ev as)) := by
  refine PE.of (pe_bm pa slot hty hm ho ha hbase hfew hline hs hplain) fun σ H Q q => ?_
  obtain ⟨δ, en, q⟩ := q
  refine ⟨δ, en, (Sat.seq (rel := SlV T B.h) q).imp fun v H1 s1 ⟨x, e, r, sm, k⟩ => ?_⟩
  by_cases ht : isTy ty x = true
  · rw [if_pos ht] at k
    refine ⟨tyV_of _ r.w ht, δ, en.keep s1, (Sat.weak (okVs T B.h) s1 (Sat.seq (rel := SlVs T B.h) k)).imp fun vs H2 s2 ⟨l, e2, r2, sm2, k2⟩ => ?_⟩
    obtain ⟨z, e4, k4⟩ := sat_opt k2
    exact ⟨x, l, z, SlW.keep s2 r.w, SlVs.w r2, e4, fun w H' s' q => k4 w H' (Same.trans sm2 s') ((okV T B.h).up _ _ _ _ _ sm2 q)⟩
  · rw [if_neg ht] at k; exact k.elim
theorem pe_sSm0 {ty id : String} {name : Str} {o : Expr} {f : Sl → List Sl → Option Sl} {ev : Ev Sl} {apos cpos : Pos} (pa : PlainAttrs ty) (slot : Slot ty name id) (hty : typeOf (.builtin id) = pure (.type "method_descriptor")) (hm : MtR X id (rM T B.h f))
    (ho : PE X o (tE T W B ev)) (hbase : attributeBase o name X.env (eval o X.env) = eval o X.env) (hline : (apos.endLine == cpos.line) = true) : PE X (.Call (.Attribute o name apos) [] [] cpos) (tE T W B (sSm ty f ev sNil)) := by
  refine PE.of (pe_bm0 pa slot hty hm ho hbase hline) fun σ H Q q => ?_
  obtain ⟨δ, en, q⟩ := q
  refine ⟨δ, en, (Sat.seq (rel := SlV T B.h) q).imp fun v H1 s1 ⟨x, e, r, sm, k⟩ => ?_⟩
  by_cases ht : isTy ty x = true
  · rw [if_pos ht] at k
    obtain ⟨z, e4, k4⟩ := sat_opt (show Sat T W (SlV T B.h) σ H (opt (f x [])) Q from k)
    exact ⟨tyV_of _ r.w ht, x, [], z, r.w, .nil, e4, fun w H' s' q => k4 w H' (Same.trans sm s') ((okV T B.h).up _ _ _ _ _ sm q)⟩
  · rw [if_neg ht] at k; exact k.elim

/-! ### calls of defs -/
/-- an argument: shared, a list that is lent, a tree that is lent, a dict that is lent -/
def ArgR (T : Tx) (H : Hp) : Sl → V → Prop
  | .fr d, v => Rep T H d v
  | .bor ds, v => ∃ a xs, v = .ref a ∧ Rd H a (.lst xs) ∧ Reps T H ds xs
  | .dt false kvs, v => ∃ a xs, v = .ref a ∧ H a = some (.dT xs) ∧ KvR T H kvs xs
  | .dk false kvs, v => ∃ a xs, v = .ref a ∧ H a = some (.dK xs) ∧ KvR T H kvs xs
  | .lent m, v => RepV T H m v
  | _, _ => False
theorem ArgR.mono {H H' : Hp} (s : Same H H') : ∀ {a : Sl} {v : V}, ArgR T H a v → ArgR T H' a v
  | .fr d, _, h => Rep.mono (Same.mono s) _ _ h
  | .bor ds, _, ⟨a, xs, e, h, r⟩ => ⟨a, xs, e, Rd.same s h, Reps.mono (Same.mono s) _ _ r⟩
  | .dt false ds, _, ⟨a, xs, e, h, r⟩ => ⟨a, xs, e, s _ _ h, r.mono (Same.mono s)⟩
  | .dk false ds, _, ⟨a, xs, e, h, r⟩ => ⟨a, xs, e, s _ _ h, r.mono (Same.mono s)⟩
  | .lent m, _, h => RepV.same s h
/-- what a parameter takes -/
inductive Md where
  | fr | bo | le | di
/-- a tree to be lent -/
def asM : Sl → Option M
  | .view m => some m
  | .lent m => some m
  | .deep m => some m
  | .own ds => some (.lst (ds.map .fz))
  | .bor ds => some (.lst (ds.map .fz))
  | .fr (.lst ds) => some (.lst (ds.map .fz))
  | _ => none
def cv : Md → Sl → Option Sl
  | .bo, a => (asL a).map .bor
  | .fr, a => (fz a).map .fr
  | .le, a => (asM a).map .lent
  | .di, .dt _ kvs => some (.dt false kvs)
  | .di, .dk _ kvs => some (.dk false kvs)
  | .di, _ => none
def cvs : List Md → List Sl → Option (List Sl)
  | [], [] => some []
  | b :: bs, a :: as => match cv b a, cvs bs as with
    | some x, some xs => some (x :: xs)
    | _, _ => none
  | _, _ => none
def RlA (T : Tx) : Rl (List Sl) (List V) := fun _ H' as vs => Paired (ArgR T H') as vs
theorem okA (T : Tx) : RlOk (RlA T) := ⟨fun _ _ _ _ _ _ h => h, fun _ _ _ _ _ h s => Paired.mapP h fun a v q => ArgR.mono s q⟩
theorem fz_rep {H H1 H2 : Hp} (f : Fz H H1 H2) {p : Addr} {xs : List V} (h : Rd H1 p (.lst xs)) : Rd H2 p (.lst xs) := by
  rcases h with h | ⟨o, h⟩
  · rcases f.lst p xs h with h2 | ⟨_, h2⟩
    · exact .inl h2
    · exact h2.rd
  · exact .inr ⟨o, f.mono _ _ h rfl⟩
theorem Fz.dT {H H1 H2 : Hp} (f : Fz H H1 H2) {p : Addr} {xs : List (List Key × V)} (h : H1 p = some (.dT xs)) : H2 p = some (.dT xs) := by
  rcases f.keep p _ h with h | ⟨ys, e, _⟩
  · exact h
  · cases e
theorem Fz.dK {H H1 H2 : Hp} (f : Fz H H1 H2) {p : Addr} {xs : List (Key × V)} (h : H1 p = some (.dK xs)) : H2 p = some (.dK xs) := by
  rcases f.keep p _ h with h | ⟨ys, e, _⟩
  · exact h
  · cases e
theorem asM_v {H : Hp} {a : Sl} {m : M} {v : V} (h : SlW T B.h H a v) (e : asM a = some m) : RepV T H m v := by
  cases a with
  | view n => cases e; exact h
  | lent n => cases e; exact RepV.same h.1 h.2
  | deep n => cases e; obtain ⟨F, h⟩ := h; exact RepM.v _ _ _ h
  | own ds => cases e; obtain ⟨p, xs, e1, s, r⟩ := h; exact ⟨p, xs, e1, .inl s, reps_v r⟩
  | bor ds => cases e; obtain ⟨p, xs, e1, s, r⟩ := h; exact ⟨p, xs, e1, s, reps_v r⟩
  | fr d => cases d with
    | lst ds => cases e; obtain ⟨p, xs, e1, s, r⟩ := h; exact ⟨p, xs, e1, s.rd, reps_v r⟩
    | _ => cases e
  | _ => cases e
/-- freezing further keeps arguments -/
theorem Fz.arg {H H2 H3 : Hp} (f : Fz H H2 H3) : ∀ {a : Sl} {v : V}, ArgR T H2 a v → ArgR T H3 a v
  | .fr d, _, h => Rep.mono f.mono _ _ h
  | .bor ds, _, ⟨a, xs, e, h, r⟩ => ⟨a, xs, e, fz_rep f h, Reps.mono f.mono _ _ r⟩
  | .dt false ds, _, ⟨a, xs, e, h, r⟩ => ⟨a, xs, e, f.dT h, r.mono f.mono⟩
  | .dk false ds, _, ⟨a, xs, e, h, r⟩ => ⟨a, xs, e, f.dK h, r.mono f.mono⟩
  | .lent m, _, h => RepV.keep f.mono (fun a xs r => fz_rep f r) _ _ h
theorem cv_all {pins : List (Addr × Obj)} {σ : St} {s : Shared} {H H1 : Hp} : ∀ {bs : List Md} {as as' : List Sl} {vs : List V} {H2 : Hp}, Inv X pins σ H2 s → Fz H H1 H2 → Paired (fun a v => SlV T B.h H H1 a v) as vs → cvs bs as = some as' →
    ∃ H3, Inv X pins σ H3 s ∧ Fz H H1 H3 ∧ Fz H H2 H3 ∧ Paired (ArgR T H3) as' vs
  | [], [], _, _, H2, I, f, .nil, e => by cases e; exact ⟨H2, I, f, Fz.refl f.same, .nil⟩
  | b :: bs, [], _, _, _, _, _, _, e => by cases e
  | [], a :: as, _, _, _, _, _, _, e => by cases e
  | b :: bs, a :: as, _, _, H2, I, f, .cons (b := v) r rr, e => by
    unfold cvs at e
    split at e
    · rename_i x xs e1 e2
      cases e
      obtain ⟨H3, I3, f3, m3, r3⟩ : ∃ H3, Inv X pins σ H3 s ∧ Fz H H1 H3 ∧ Fz H H2 H3 ∧ ArgR T H3 x v := by
        cases b with
        | bo =>
          obtain ⟨ds, e3, rfl⟩ := Option.map_eq_some_iff.mp (show (asL a).map Sl.bor = some x from e1)
          obtain ⟨p, ys, rfl, s1, r1⟩ := w_lst r.w e3
          exact ⟨H2, I, f, Fz.refl f.same, p, ys, rfl, fz_rep f s1, Reps.mono f.mono _ _ r1⟩
        | fr =>
          obtain ⟨d, e3, rfl⟩ := Option.map_eq_some_iff.mp (show (fz a).map Sl.fr = some x from e1)
          obtain ⟨H3, J, g, g2, q⟩ := fz_any I f r e3
          exact ⟨H3, J, g, g2, q⟩
        | le =>
          obtain ⟨m, e3, rfl⟩ := Option.map_eq_some_iff.mp (show (asM a).map Sl.lent = some x from e1)
          exact ⟨H2, I, f, Fz.refl f.same, RepV.keep f.mono (fun a xs r => fz_rep f r) _ _ (asM_v r.w e3)⟩
        | di =>
          cases a with
          | dt o kvs => cases e1; obtain ⟨p, ys, rfl, s1, r1, k1⟩ := r; exact ⟨H2, I, f, Fz.refl f.same, p, ys, rfl, f.dT r1, k1.mono f.mono⟩
          | dk o kvs => cases e1; obtain ⟨p, ys, rfl, s1, r1, k1⟩ := r; exact ⟨H2, I, f, Fz.refl f.same, p, ys, rfl, f.dK r1, k1.mono f.mono⟩
          | _ => cases e1
      obtain ⟨H4, I4, f4, m4, r4⟩ := cv_all (H2 := H3) I3 f3 rr e2
      exact ⟨H4, I4, f4, m3.trans m4, .cons (m4.arg r3) r4⟩
    · cases e
def sCv (bs : List Md) (as : Ev (List Sl)) : Ev (List Sl) := fun δ => bnd (as δ) fun l => opt (cvs bs l)
theorem pa_sCv {bs : List Md} {es : List Expr} {as : Ev (List Sl)} (h : PA X es (tA T W B as)) : PA X es (tR T W B (RlA T) (sCv bs as)) := by
  refine ⟨fun pos pins s σ H Q I q => ?_⟩
  have q2 := seq1 (T := T) (W := W) (B := B) (rel1 := SlVs T B.h) (rel3 := RlA T) (a := as) (k := fun x => opt (cvs bs x)) (Q := Q) q
  refine thn (h.run pos pins s σ H _ I q2) fun u s1 ⟨v, H1, I1, r, x, rx, sm, _, k⟩ => ?_
  cases e1 : cvs bs x with
  | none => rw [e1] at k; exact k.elim
  | some d =>
    rw [e1] at k
    obtain ⟨H2, I2, f, _, rd⟩ := cv_all I1 (Fz.refl sm) rx.pr e1
    exact ⟨v, H2, I2, r, k v H2 f.same rd⟩
/-- the empty heap -/
def E0h : Hp := fun _ => none
theorem SlV.base {T : Tx} {B H H' : Hp} (s : Same B H') : ∀ {a : Sl} {v : V}, SlV T E0h H H' a v → SlV T B H H' a v
  | .no, _, h => h
  | .fr d, _, h => h
  | .own ds, _, h => h
  | .bor ds, _, h => h
  | .dt _ ds, _, h => h
  | .dk _ ds, _, h => h
  | .deep m, _, h => h
  | .mp _, _, h => h
  | .lent m, _, h => ⟨s, RepV.same (fun _ _ e => by cases e) h.2⟩
  | .view m, _, h => h
def spT (T : Tx) (n : Nat) (g : List Sl → R Sl) : Sp := fun vs H Q E => ∃ as, as.length = n ∧ Paired (ArgR T H) as vs ∧ Sat T (fun cls d _ H' => E cls d H') (SlV T E0h) [] H (g as) Q
def sCall (g : List Sl → R Sl) (bs : List Md) (as : Ev (List Sl)) : Ev Sl := fun δ => bnd (sCv bs as δ) fun l => g l
theorem cvs_len : ∀ {bs : List Md} {as as' : List Sl}, cvs bs as = some as' → as'.length = bs.length
  | [], [], _, e => by cases e; rfl
  | b :: bs, [], _, e => by cases e
  | [], a :: as, _, e => by cases e
  | b :: bs, a :: as, _, e => by
    unfold cvs at e
    split at e
    · rename_i x xs e1 e2
      cases e
      simp [cvs_len e2]
    · cases e
theorem sCall_read {g : List Sl → R Sl} {bs : List Md} {as : Ev (List Sl)} {σ : St} {H : Hp} {Q : VK} (h : tE T W B (sCall g bs as) σ H Q) : tCallS (spT T bs.length g) (WE W) (tR T W B (RlA T) (sCv bs as)) σ H Q := by
  obtain ⟨δ, en, q⟩ := h
  refine ⟨δ, en, (Sat.seq (rel := RlA T) q).imp fun vs H1 s1 ⟨l, e, r, sm, k⟩ => ?_⟩
  refine ⟨l, ?_, r, ?_⟩
  · unfold sCv at e
    cases e2 : as δ with
    | none => rw [e2] at e; cases e
    | some o =>
      rw [e2] at e
      cases o with
      | exc c xs => cases e
      | val a =>
        have e : opt (cvs bs a) = ok l := e
        cases e3 : cvs bs a with
        | none => rw [e3] at e; cases e
        | some a' => rw [e3] at e; cases e; exact cvs_len e3
  · have k2 := Sat.weak (okV T B.h) sm k
    unfold Sat at k2 ⊢
    cases e9 : g l with
    | none => rw [e9] at k2; exact k2
    | some o =>
      rw [e9] at k2
      cases o with
      | exc c xs => exact k2
      | val a => exact fun v H' s q => k2 v H' s (SlV.base (Same.trans en.same (Same.trans sm s)) q)
theorem pe_sCall {k : Nat} {f : Addr} {fd : FuncData} {ps : List Str} {g : List Sl → R Sl} {bs : List Md} {as : Ev (List Sl)} {x : Str} {p pos : Pos} {e : Expr} {es : List Expr} (F : FnOk X.prog X.w X.K X.mg X.base (L2.CX X.prog X.w) k f fd ps (spT T bs.length g)) (hr : Room k X.A) (hg : Gl X x) (hm : X.mg x = some (.ref f))
    (hk : PySem.W.keepIn X.K (.ref f) = true) (hb : Binds X.K fd ps []) (tk : Takes X W) (ha : PA X (e :: es) (tA T W B as)) (hdb : (x == ("__debug__" : Str)) = false) (he : starEach (e :: es) X.env = (false, eval e X.env) :: starEach es X.env) (hpl : (backTo pos (starEach es X.env)).any (·.1) = false) :
    PE X (.Call (.Name x p) (e :: es) [] pos) (tE T W B (sCall g bs as)) :=
  PE.of (pe_callS F hr hg hm hk hb (fun σ => passAt tk σ) (pa_sCv ha) hdb he hpl) fun σ H Q h => sCall_read h
theorem pe_sCall0 {k : Nat} {f : Addr} {fd : FuncData} {ps : List Str} {g : List Sl → R Sl} {x : Str} {p pos : Pos} (F : FnOk X.prog X.w X.K X.mg X.base (L2.CX X.prog X.w) k f fd ps (spT T 0 g)) (hr : Room k X.A) (hg : Gl X x) (hm : X.mg x = some (.ref f))
    (hk : PySem.W.keepIn X.K (.ref f) = true) (hb : Binds X.K fd ps []) (tk : Takes X W) (hdb : (x == ("__debug__" : Str)) = false) : PE X (.Call (.Name x p) [] [] pos) (tE T W B (sCall g [] sNil)) := by
  refine ⟨fun pins s σ H Q I h => ?_⟩
  have q := sCall_read h
  obtain ⟨δ, en, q⟩ := q
  have q2 := q [] H Same.refl .nil
  refine wpAny_Call_Name_kw (ld_glob I hg hm ?_ hdb)
  exact PySem.W.callWith_K0 I.kIn hk (run_fnS (us := []) F hr hb (passAt tk σ) I .nil q2)
end
end TT
end
section
set_option maxRecDepth 100000
set_option maxHeartbeats 4000000
/-! U6: states that change, statements, loops, comprehensions. -/
namespace TT
open PySem PySem.Spec PyProof.Rows L2

section
variable {T : Tx} {B : Bs} {H Hb : Hp} {δ : Dl} {σ : St} {i : Nat}
theorem getD_set {σ : St} {i j : Nat} {o : Option V} : (σ.set i o).getD j none = if i = j then (if i < σ.length then o else none) else σ.getD j none := by
  rw [List.getD_eq_getElem?_getD, List.getD_eq_getElem?_getD]
  by_cases h : i = j
  · subst h
    rw [if_pos rfl]
    by_cases hl : i < σ.length
    · rw [if_pos hl, List.getElem?_set_self hl]; rfl
    · rw [if_neg hl, List.getElem?_eq_none (by simpa using hl)]; rfl
  · rw [if_neg h, List.getElem?_set_ne h]
/-- a slot takes something new -/
theorem EnvR.setNew {sl : Sl} {o : Option V} {G : List Addr} (en : EnvR T B Hb δ σ) (s : Same Hb H) (hi : i < δ.length) (r : SlR T B H i sl o G) (nd : G.Nodup) (new : ∀ a ∈ G, Hb a = none) : EnvR T B H (δ.set i sl) (σ.set i o) where
  len := by simp [en.len]
  same := Same.trans en.same s
  ex := by
    obtain ⟨F, f⟩ := en.ex
    have old : ∀ j a, j < δ.length → a ∈ F j → Hb a ≠ none := fun j a hj ha z => by
      obtain ⟨u, e1, _⟩ := (f.slot j _ (List.getElem?_eq_getElem hj)).there a ha
      rw [z] at e1; cases e1
    refine ⟨fun j => if j = i then G else if j < δ.length then F j else [], fun j u q => ?_, fun j => ?_, fun j k a h1 h2 => ?_, fun j a h1 => ?_⟩
    · rw [getD_set]
      by_cases h : i = j
      · subst h
        rw [List.getElem?_set_self hi] at q
        cases q
        rw [if_pos rfl, if_pos (by rw [← en.len]; exact hi), if_pos rfl]
        exact r
      · rw [List.getElem?_set_ne h] at q
        have hj := (List.getElem?_eq_some_iff.mp q).1
        rw [if_neg h, if_neg (Ne.symm h), if_pos hj]
        refine (f.slot j u q).keep (Same.mono s) fun a ha => ?_
        obtain ⟨w, e1, _⟩ := (f.slot j u q).there a ha
        rw [e1, s _ _ e1]
    · split
      · exact nd
      · split
        · exact f.nd j
        · exact List.nodup_nil
    · by_cases hj : j = i
      · by_cases hk : k = i
        · rw [hj, hk]
        · rw [if_pos hj] at h1
          rw [if_neg hk] at h2
          by_cases hl : k < δ.length
          · rw [if_pos hl] at h2
            exact absurd (new a h1) (old k a hl h2)
          · rw [if_neg hl] at h2; cases h2
      · rw [if_neg hj] at h1
        by_cases hl : j < δ.length
        · rw [if_pos hl] at h1
          by_cases hk : k = i
          · rw [if_pos hk] at h2
            exact absurd (new a h2) (old j a hl h1)
          · rw [if_neg hk] at h2
            by_cases hm : k < δ.length
            · rw [if_pos hm] at h2; exact f.ap j k a h1 h2
            · rw [if_neg hm] at h2; cases h2
        · rw [if_neg hl] at h1; cases h1
    · by_cases hj : j = i
      · rw [if_pos hj] at h1; exact none_of en.same (new a h1)
      · rw [if_neg hj] at h1
        by_cases hl : j < δ.length
        · rw [if_pos hl] at h1; exact f.new j a h1
        · rw [if_neg hl] at h1; cases h1
theorem EnvR.setFr (en : EnvR T B H δ σ) {d : D} {v : V} (hi : i < δ.length) (r : Rep T H d v) : EnvR T B H (δ.set i (.fr d)) (σ.set i (some v)) :=
  en.setNew (G := []) Same.refl hi ⟨⟨v, rfl, r⟩, rfl⟩ List.nodup_nil fun _ h => by cases h
theorem EnvR.setNo (en : EnvR T B H δ σ) {o : Option V} (hi : i < δ.length) : EnvR T B H (δ.set i .no) (σ.set i o) :=
  en.setNew (G := []) Same.refl hi rfl List.nodup_nil fun _ h => by cases h
/-- what a slot holds of its own is changed -/
theorem EnvR.change {F : Nat → List Addr} {G : List Addr} {sl : Sl} {H' : Hp} (en : EnvR T B H δ σ) (f : Fps T B H δ σ F) (hi : i < δ.length) (mo : Mono H H') (out : ∀ a, H a ≠ none → a ∉ F i → H' a = H a) (r : SlR T B H' i sl (σ.getD i none) G) (nd : G.Nodup) (sub : ∀ a ∈ G, a ∈ F i ∨ H a = none) :
    EnvR T B H' (δ.set i sl) σ where
  len := by simp [en.len]
  same := fun a o e => by
    have e1 := en.same a o e
    rw [out a (by rw [e1]; simp) fun h => by rw [f.new i a h] at e; cases e]
    exact e1
  ex := by
    have old : ∀ j a, j < δ.length → a ∈ F j → H a ≠ none := fun j a hj ha z => by
      obtain ⟨u, e1, _⟩ := (f.slot j _ (List.getElem?_eq_getElem hj)).there a ha
      rw [z] at e1; cases e1
    have far : ∀ j a, j ≠ i → j < δ.length → a ∈ F j → a ∉ G := fun j a hj hl ha hg => by
      rcases sub a hg with h | h
      · exact hj (f.ap j i a ha h)
      · exact old j a hl ha h
    refine ⟨fun j => if j = i then G else if j < δ.length then F j else [], fun j u q => ?_, fun j => ?_, fun j k a h1 h2 => ?_, fun j a h1 => ?_⟩
    · by_cases h : i = j
      · subst h
        rw [List.getElem?_set_self hi] at q
        cases q
        rw [if_pos rfl]
        exact r
      · rw [List.getElem?_set_ne h] at q
        have hj := (List.getElem?_eq_some_iff.mp q).1
        rw [if_neg (Ne.symm h), if_pos hj]
        refine (f.slot j u q).keep mo fun a ha => ?_
        exact out a (old j a hj ha) fun z => h (f.ap i j a z ha)
    · split
      · exact nd
      · split
        · exact f.nd j
        · exact List.nodup_nil
    · by_cases hj : j = i
      · by_cases hk : k = i
        · rw [hj, hk]
        · rw [if_pos hj] at h1
          rw [if_neg hk] at h2
          by_cases hl : k < δ.length
          · rw [if_pos hl] at h2
            exact absurd h1 (far k a hk hl h2)
          · rw [if_neg hl] at h2; cases h2
      · rw [if_neg hj] at h1
        by_cases hl : j < δ.length
        · rw [if_pos hl] at h1
          by_cases hk : k = i
          · rw [if_pos hk] at h2
            exact absurd h2 (far j a hj hl h1)
          · rw [if_neg hk] at h2
            by_cases hm : k < δ.length
            · rw [if_pos hm] at h2; exact f.ap j k a h1 h2
            · rw [if_neg hm] at h2; cases h2
        · rw [if_neg hl] at h1; cases h1
    · by_cases hj : j = i
      · rw [if_pos hj] at h1
        rcases sub a h1 with h | h
        · exact f.new i a h
        · exact none_of en.same h
      · rw [if_neg hj] at h1
        by_cases hl : j < δ.length
        · rw [if_pos hl] at h1; exact f.new j a h1
        · rw [if_neg hl] at h1; cases h1
/-- a list of the def's own is changed -/
theorem EnvR.write (en : EnvR T B H δ σ) {a : Addr} {xs ys : List V} {ds es : List D} (q : δ[i]? = some (.own ds)) (e : σ.getD i none = some (.ref a)) (h : H a = some (.lst xs)) (r : Reps T H es ys) :
    EnvR T B (upd H a (.lst ys)) (δ.set i (.own es)) σ ∧ Mono H (upd H a (.lst ys)) := by
  have hi : i < δ.length := (List.getElem?_eq_some_iff.mp q).1
  have mo : Mono H (upd H a (.lst ys)) := fun b u z f => by
    rw [upd_ne (by rintro rfl; rw [h] at z; cases z; cases f)]; exact z
  obtain ⟨F, f⟩ := en.ex
  obtain ⟨b, zs, e1, e2, e3, e4⟩ := f.slot i _ q
  rw [e] at e1; cases e1
  refine ⟨en.change (G := [a]) f hi mo (fun b _ hb => upd_ne fun z => hb (by rw [e4, z]; exact List.mem_cons_self)) ⟨a, ys, e, upd_same, Reps.mono mo _ _ r, rfl⟩ (by simp) fun b hb => .inl (by rw [e4]; exact hb), mo⟩
/-- slots are forgotten -/
def wipeD (δ : Dl) : List Nat → Dl
  | [] => δ
  | v :: vs => (wipeD δ vs).set v .no
theorem EnvR.wipe (en : EnvR T B H δ σ) : ∀ vs : List Nat, EnvR T B H (wipeD δ vs) (L2.wipe σ vs)
  | [] => en
  | v :: vs => by
    have ih := en.wipe vs
    show EnvR T B H ((wipeD δ vs).set v .no) ((L2.wipe σ vs).set v none)
    by_cases hv : v < (wipeD δ vs).length
    · exact ih.setNo hv
    · rw [List.set_eq_of_length_le (by omega), List.set_eq_of_length_le (by rw [← ih.len]; omega)]
      exact ih
theorem wipeD_len : ∀ vs : List Nat, (wipeD δ vs).length = δ.length
  | [] => rfl
  | v :: vs => by unfold wipeD; rw [List.length_set, wipeD_len vs]
theorem EnvR.forget (en : EnvR T B H δ σ) (hi : i < δ.length) : EnvR T B H (δ.set i .no) σ := by
  obtain ⟨F, f⟩ := en.ex
  exact en.change (G := []) f hi Mono.refl (fun _ _ _ => rfl) rfl List.nodup_nil fun _ h => by cases h
/-- what a slot holds of its own is given away -/
theorem EnvR.away {F : Nat → List Addr} (en : EnvR T B H δ σ) (f : Fps T B H δ σ F) (hi : i < δ.length) : EnvR T B (hide H (F i)) (δ.set i .no) σ :=
  en.change (G := []) f hi (hide_mono fun a ha u e => by
    obtain ⟨w, e1, e2⟩ := (f.slot i _ (List.getElem?_eq_getElem hi)).there a ha
    rw [e] at e1; cases e1; exact e2) (fun a _ ha => hide_out ha) rfl List.nodup_nil fun _ h => by cases h
end

/-! ### statements -/
inductive SO where
  | nx (δ : Dl) | ret (δ : Dl) (r : Sl) | exc (δ : Dl) (c : Nat) (xs : List D)
abbrev SR := Option SO
abbrev Ex := Dl → SR
def SatS (T : Tx) (W : WX) (B : Bs) (De : Ends) (H : Hp) (r : SR) : Prop :=
  match r with
  | some (.nx δ') => ∀ σ' H', EnvR T B H' δ' σ' → Mono H H' → De.nx σ' H'
  | some (.ret δ' r) => ∀ σ' v Hm H', EnvR T B Hm δ' σ' → Mono H H' → Same Hm H' → SlV T B.h Hm H' r v → De.rt v H'
  | some (.exc δ' c xs) => ∀ σ' d H', EnvR T B H' δ' σ' → Mono H H' → PayR T H' c xs d → W (.ref (T.eA c)) d σ' H'
  | none => False
def tS (T : Tx) (W : WX) (B : Bs) (ex : Ex) : TS := fun De σ H => ∃ δ, EnvR T B H δ σ ∧ SatS T W B De H (ex δ)
/-- what follows an expression -/
def thenS {α : Type} (δ : Dl) (r : R α) (k : α → SR) : SR :=
  match r with
  | none => none
  | some (.exc c xs) => some (.exc δ c xs)
  | some (.val a) => k a
@[simp] theorem thenS_ok {α : Type} (δ : Dl) (a : α) (k : α → SR) : thenS δ (ok a) k = k a := rfl
@[simp] theorem thenS_none {α : Type} (δ : Dl) (k : α → SR) : thenS δ (none : R α) k = none := rfl
@[simp] theorem thenS_exc {α : Type} (δ : Dl) (c : Nat) (xs : List D) (k : α → SR) : thenS δ (some (.exc c xs) : R α) k = some (.exc δ c xs) := rfl
def thenX (r : SR) (k : Ex) : SR :=
  match r with
  | some (.nx δ) => k δ
  | r => r
@[simp] theorem thenX_nx (δ : Dl) (k : Ex) : thenX (some (.nx δ)) k = k δ := rfl
@[simp] theorem thenX_ret (δ : Dl) (r : Sl) (k : Ex) : thenX (some (.ret δ r)) k = some (.ret δ r) := rfl
@[simp] theorem thenX_exc (δ : Dl) (c : Nat) (xs : List D) (k : Ex) : thenX (some (.exc δ c xs)) k = some (.exc δ c xs) := rfl
@[simp] theorem thenX_none (k : Ex) : thenX none k = none := rfl
section
variable {T : Tx} {W : WX} {B : Bs} {H H1 : Hp} {De : Ends} {δ : Dl} {σ : St}
theorem SatS.weak {r : SR} (m : Mono H H1) (h : SatS T W B De H r) : SatS T W B De H1 r := by
  unfold SatS at *
  split at h
  · exact fun σ' H' e m' => h σ' H' e (m.trans m')
  · exact fun σ' v Hm H' e m' => h σ' v Hm H' e (m.trans m')
  · exact fun σ' d H' e m' => h σ' d H' e (m.trans m')
  · exact h
theorem SatS.expr {α β : Type} {rel : Rl α β} (en : EnvR T B H δ σ) {r : R α} {k : α → SR} (h : SatS T W B De H (thenS δ r k)) : Sat T W rel σ H r fun v H1 => ∃ a, r = ok a ∧ rel H H1 a v ∧ Same H H1 ∧ EnvR T B H1 δ σ ∧ SatS T W B De H1 (k a) := by
  match r with
  | none => exact h
  | some (.exc c xs) => exact fun d H' s p => h σ d H' (en.keep s) (Same.mono s) p
  | some (.val a) => exact fun v H' s q => ⟨a, rfl, q, s, en.keep s, SatS.weak (Same.mono s) h⟩
end

section
variable {X : Cx} {T : Tx} {W : WX} {B : Bs}
def xNil : Ex := fun δ => some (.nx δ)
def xSeq (a b : Ex) : Ex := fun δ => thenX (a δ) b
theorem pss_xNil : PSs X [] (tS T W B xNil) := PSs.of pss_nil fun De σ H ⟨δ, en, q⟩ => q σ H en Mono.refl
theorem pss_xSeq {st : Stmt} {rest : List Stmt} {a b : Ex} (h1 : PS X st (tS T W B a)) (h2 : PSs X rest (tS T W B b)) : PSs X (st :: rest) (tS T W B (xSeq a b)) := by
  refine PSs.of (pss_cons h1 h2) fun De σ H ⟨δ, en, q⟩ => ⟨δ, en, ?_⟩
  unfold xSeq at q
  cases e : a δ with
  | none => rw [e] at q; exact q
  | some o =>
    rw [e] at q
    cases o with
    | nx δ' => exact fun σ' H' en' m => ⟨δ', en', SatS.weak m q⟩
    | ret δ2 r => exact q
    | exc δ' c xs => exact q
/-- what is laid ahead without a statement of the text: freezing a slot, forgetting slots -/
def xFrz (i : Nat) : Ex := fun δ => match δ[i]? with
  | some (.own ds) => some (.nx (δ.set i (.fr (.lst ds))))
  | some (.deep m) => some (.nx (δ.set i (.fr m.toD)))
  | some (.fr d) => some (.nx δ)
  | _ => none
def xFgt (is : List Nat) : Ex := fun δ => some (.nx (is.foldl (fun δ i => δ.set i .no) δ))
theorem EnvR.fgt {H : Hp} {σ : St} : ∀ {is : List Nat} {δ : Dl}, EnvR T B H δ σ → EnvR T B H (is.foldl (fun δ i => δ.set i .no) δ) σ
  | [], _, en => en
  | i :: is, δ, en => by
    rw [List.foldl_cons]
    by_cases hi : i < δ.length
    · exact EnvR.fgt (en.forget hi)
    · rw [List.set_eq_of_length_le (by omega)]; exact EnvR.fgt en
theorem pss_xFgt {is : List Nat} {sts : List Stmt} {b : Ex} (h : PSs X sts (tS T W B b)) : PSs X sts (tS T W B (xSeq (xFgt is) b)) :=
  PSs.of h fun De σ H ⟨δ, en, q⟩ => ⟨_, EnvR.fgt (is := is) en, q⟩
theorem pss_xFrz {i : Nat} {sts : List Stmt} {b : Ex} (h : PSs X sts (tS T W B b)) : PSs X sts (tS T W B (xSeq (xFrz i) b)) := by
  refine ⟨fun pins s σ H De I ⟨δ, en, q⟩ => ?_⟩
  unfold xSeq xFrz at q
  cases e : δ[i]? with
  | none => rw [e] at q; exact q.elim
  | some sl =>
    rw [e] at q
    obtain ⟨F, f⟩ := en.ex
    have hi : i < δ.length := (List.getElem?_eq_some_iff.mp e).1
    cases sl with
    | fr d => exact h.run pins s σ H De I ⟨δ, en, q⟩
    | own ds =>
      obtain ⟨a, xs, e1, e2, e3, e4⟩ := f.slot i _ e
      obtain ⟨o, J⟩ := freeze I e2
      have mo : Mono H (upd H a (.frz o (.lst xs))) := mono_frz e2
      refine h.run pins s σ _ De J ⟨_, en.change (G := []) (sl := .fr (.lst ds)) f hi mo (fun b _ hb => upd_ne fun z => hb (by rw [e4, z]; exact List.mem_cons_self)) ⟨⟨.ref a, e1, a, xs, rfl, ⟨o, upd_same⟩, Reps.mono mo _ _ e3⟩, rfl⟩ List.nodup_nil (fun _ h => by cases h), SatS.weak mo q⟩
    | deep m =>
      obtain ⟨v, e1, e2⟩ := f.slot i _ e
      obtain ⟨H', J, mo, out, q2⟩ := freezes I (F i) (RepM.lsts _ _ _ e2)
      refine h.run pins s σ _ De J ⟨_, en.change (G := []) (sl := .fr m.toD) f hi mo (fun b _ hb => out b hb) ⟨⟨v, e1, RepM.frozen mo _ _ _ q2 e2⟩, rfl⟩ List.nodup_nil (fun _ h => by cases h), SatS.weak mo q⟩
    | _ => exact q.elim

/-! ### small statements -/
/-- x = e -/
def storeOk : Sl → Bool
  | .fr _ => true
  | .own _ => true
  | .deep _ => true
  | .lent _ => true
  | .dt true _ => true
  | .dk true _ => true
  | _ => false
def store (i : Nat) (δ : Dl) (s : Sl) : SR := if storeOk s = true then (if i < δ.length then some (.nx (δ.set i s)) else none) else none
def xSet (i : Nat) (a : Ev Sl) : Ex := fun δ => thenS δ (a δ) fun r => store i δ r
theorem EnvR.store {H1 : Hp} {δ : Dl} {σ : St} {i : Nat} {r : Sl} {v : V} {H : Hp} (en : EnvR T B H δ σ) (s : Same H H1) (rl : SlV T B.h H H1 r v) (ok : storeOk r = true) (hi : i < δ.length) : EnvR T B H1 (δ.set i r) (σ.set i (some v)) := by
  cases r with
  | fr d => exact en.setNew (G := []) s hi ⟨⟨v, rfl, rl⟩, rfl⟩ List.nodup_nil fun _ h => by cases h
  | own ds =>
    obtain ⟨a, xs, rfl, n, h, rr⟩ := rl
    exact en.setNew (G := [a]) s hi ⟨a, xs, rfl, h, rr, rfl⟩ (by simp) fun b hb => by rw [List.mem_singleton.mp hb]; exact n
  | deep m =>
    obtain ⟨F, h1, h2, h3⟩ := rl
    exact en.setNew (G := F) s hi ⟨v, rfl, h1⟩ h2 h3
  | lent m => exact en.setNew (G := []) s hi ⟨⟨v, rfl, rl.2⟩, rfl⟩ List.nodup_nil fun _ h => by cases h
  | dt o kvs =>
    cases o with
    | false => cases ok
    | true =>
      obtain ⟨a, xs, rfl, n, h, rr⟩ := rl
      exact en.setNew (G := [a]) s hi ⟨a, xs, rfl, h, rr, rfl⟩ (by simp) fun b hb => by rw [List.mem_singleton.mp hb]; exact n rfl
  | dk o kvs =>
    cases o with
    | false => cases ok
    | true =>
      obtain ⟨a, xs, rfl, n, h, rr⟩ := rl
      exact en.setNew (G := [a]) s hi ⟨a, xs, rfl, h, rr, rfl⟩ (by simp) fun b hb => by rw [List.mem_singleton.mp hb]; exact n rfl
  | _ => cases ok
theorem env_store {H H1 : Hp} {δ : Dl} {σ : St} {i : Nat} {r : Sl} {v : V} {De : Ends} (en : EnvR T B H δ σ) (s : Same H H1) (rl : SlV T B.h H H1 r v) (q : SatS T W B De H1 (store i δ r)) : De.nx (σ.set i (some v)) H1 := by
  unfold store at q
  by_cases ok : storeOk r = true
  · rw [if_pos ok] at q
    by_cases hi : i < δ.length
    · rw [if_pos hi] at q
      exact q _ H1 (en.store s rl ok hi) Mono.refl
    · rw [if_neg hi] at q; exact q.elim
  · rw [if_neg ok] at q; exact q.elim
theorem ps_xSet {i : Nat} {x : Str} {e : Expr} {a : Ev Sl} {pos pos' : Pos} (hN : X.N.Nodup) (hi : X.N[i]? = some x) (hx : Loc X.env.scope x) (he : PE X e (tE T W B a)) (hs : swapsWith e (some (.Name x pos')) pos.line X.env = pure false) (hf : X.fn x = true ∨ X.env.scope.names.lookup x = some .local) :
    PS X (.Assign [.Name x pos'] e pos) (tS T W B (xSet i a)) := by
  refine PS.of (ps_set hN hi hx he hs hf) fun De σ H ⟨δ, en, q⟩ => ⟨δ, en, ?_⟩
  refine (SatS.expr (rel := SlV T B.h) en q).imp fun v H1 s1 ⟨r, e1, rl, sm, en1, k⟩ => ?_
  exact env_store en sm rl k
/-- e alone -/
def xExpr (a : Ev Sl) : Ex := fun δ => thenS δ (a δ) fun _ => some (.nx δ)
theorem ps_xExpr {e : Expr} {a : Ev Sl} {pos : Pos} (he : PE X e (tE T W B a)) (hs : swapsWith e none pos.line X.env = pure false) : PS X (.Expr e pos) (tS T W B (xExpr a)) := by
  refine PS.of (ps_expr he hs) fun De σ H ⟨δ, en, q⟩ => ⟨δ, en, ?_⟩
  exact (SatS.expr (rel := SlV T B.h) en q).imp fun v H1 s1 ⟨r, e1, rl, sm, en1, k⟩ => k σ H1 en1 Mono.refl
/-- what may be handed out -/
def outOk : Sl → Bool
  | .fr _ => true
  | .own _ => true
  | .deep _ => true
  | _ => false
/-- return e: what is of the def's own making is handed out as one's own -/
def xRet (a : Ev Sl) : Ex := fun δ => thenS δ (a δ) fun r => if outOk r = true then some (.ret δ r) else none
theorem ps_xRet {e : Expr} {a : Ev Sl} {pos : Pos} (he : PE X e (tE T W B a)) : PS X (.Return (some e) pos) (tS T W B (xRet a)) := by
  refine PS.of (ps_ret he) fun De σ H ⟨δ, en, q⟩ => ⟨δ, en, ?_⟩
  refine (SatS.expr (rel := SlV T B.h) en q).imp fun v H1 s1 ⟨r, e1, rl, sm, en1, k⟩ => ?_
  by_cases ok : outOk r = true
  · rw [if_pos ok] at k
    exact k σ v H H1 en Mono.refl sm rl
  · rw [if_neg ok] at k; exact k.elim
/-- return x, x of the def's own: it is handed out -/
def xRetMv (i : Nat) : Ex := fun δ => match δ[i]? with
  | some (.own ds) => some (.ret (δ.set i .no) (.own ds))
  | some (.deep m) => some (.ret (δ.set i .no) (.deep m))
  | some (.fr d) => some (.ret δ (.fr d))
  | _ => none
theorem ps_xRetMv {i : Nat} {x : Str} {pos pos' : Pos} (h : PE X (.Name x pos') (tVar i)) : PS X (.Return (some (.Name x pos')) pos) (tS T W B (xRetMv i)) := by
  refine PS.of (ps_ret h) fun De σ H ⟨δ, en, q⟩ => ?_
  unfold xRetMv at q
  cases e : δ[i]? with
  | none => rw [e] at q; exact q.elim
  | some sl =>
    rw [e] at q
    obtain ⟨F, f⟩ := en.ex
    have hi : i < δ.length := (List.getElem?_eq_some_iff.mp e).1
    cases sl with
    | fr d =>
      obtain ⟨⟨v, e1, r⟩, _⟩ := f.slot i _ e
      exact ⟨v, get_slot e1, q σ v H H en Mono.refl Same.refl r⟩
    | own ds =>
      obtain ⟨a, xs, e1, e2, e3, e4⟩ := f.slot i _ e
      exact ⟨.ref a, get_slot e1, q σ (.ref a) _ H (en.away f hi) Mono.refl hide_same ⟨a, xs, rfl, hide_in (by rw [e4]; exact List.mem_cons_self), e2, e3⟩⟩
    | deep m =>
      obtain ⟨v, e1, e2⟩ := f.slot i _ e
      exact ⟨v, get_slot e1, q σ v _ H (en.away f hi) Mono.refl hide_same ⟨F i, e2, f.nd i, fun a ha => hide_in ha⟩⟩
    | _ => exact q.elim
def xRetN : Ex := fun δ => some (.ret δ (.fr .non))
theorem ps_xRetN {pos : Pos} : PS X (.Return none pos) (tS T W B xRetN) := PS.of ps_retN fun De σ H ⟨δ, en, q⟩ => q σ .non H H en Mono.refl Same.refl rfl
theorem ps_xPass {pos : Pos} : PS X (.Pass pos) (tS T W B xNil) := PS.of ps_pass fun De σ H ⟨δ, en, q⟩ => q σ H en Mono.refl
def xIf (t : Ev Bool) (a b : Ex) : Ex := fun δ => thenS δ (t δ) fun c => if c = true then a δ else b δ
theorem ps_xIf {c : Expr} {sa sb : List Stmt} {t : Ev Bool} {a b : Ex} {pos : Pos} (hc : PT X c (tT T W B t)) (ha : PSs X sa (tS T W B a)) (hb : PSs X sb (tS T W B b)) : PS X (.If c sa sb pos) (tS T W B (xIf t a b)) := by
  refine PS.of (ps_if hc ha hb) fun De σ H ⟨δ, en, q⟩ => ⟨δ, en, ?_⟩
  refine (SatS.expr (rel := RlEq) en q).imp fun v H1 s1 ⟨r, e1, rl, sm, en1, k⟩ => ?_
  cases rl
  cases v with
  | true => exact ⟨δ, en1, by simpa using k⟩
  | false => exact ⟨δ, en1, by simpa using k⟩

/-! ### targets: a name, or several names of a tuple -/
def tgt : List Nat → List D → Dl → Option Dl
  | [], [], δ => some δ
  | i :: is, d :: ds, δ => if i < δ.length then tgt is ds (δ.set i (.fr d)) else none
  | _, _, _ => none
inductive Tg where
  | one (i : Nat) | many (is : List Nat)
def Tg.put : Tg → D → Dl → Option Dl
  | .one i, d, δ => if i < δ.length then some (δ.set i (.fr d)) else none
  | .many is, .tup ds, δ => tgt is ds δ
  | .many is, .lst ds, δ => tgt is ds δ
  | .many is, _, _ => none
def Tg.slots : Tg → List Nat
  | .one i => [i]
  | .many is => is
/-- a target's reading puts data -/
structure TgOk (T : Tx) (B : Bs) (g : TG) (t : Tg) : Prop where
  put : ∀ (v : V) (d : D) (σ : St) (H : Hp) (δ δ' : Dl) (Q : St → Hp → Prop), EnvR T B H δ σ → Rep T H d v → t.put d δ = some δ' →
    (∀ σ', EnvR T B H δ' σ' → (∀ vs, (∀ i ∈ t.slots, i ∈ vs) → L2.wipe σ' vs = L2.wipe σ vs) → Q σ' H) → g v σ H Q
theorem wipe_set {σ : St} {i : Nat} {o : Option V} : ∀ {vs : List Nat}, i ∈ vs → L2.wipe (σ.set i o) vs = L2.wipe σ vs
  | [], h => by cases h
  | v :: vs, h => by
    unfold L2.wipe
    by_cases hi : i ∈ vs
    · rw [wipe_set hi]
    · have e : i = v := by
        rcases List.mem_cons.mp h with e | e
        · exact e
        · exact absurd e hi
      subst e
      have key : ∀ (ws : List Nat) (τ : St), i ∉ ws → L2.wipe (τ.set i o) ws = (L2.wipe τ ws).set i o := fun ws => by
        induction ws with
        | nil => intro τ _; rfl
        | cons w ws ih =>
          intro τ hn
          have h1 : i ≠ w := fun e => hn (by rw [e]; exact List.mem_cons_self)
          have h2 : i ∉ ws := fun e => hn (List.mem_cons_of_mem _ e)
          unfold L2.wipe
          rw [ih τ h2, List.set_comm _ _ h1]
      rw [key vs σ hi, List.set_set]
theorem tg_one {i : Nat} : TgOk T B (gName i) (.one i) := ⟨fun v d σ H δ δ' Q en r e k => by
  have e : (if i < δ.length then some (δ.set i (.fr d)) else none) = some δ' := e
  split at e
  · rename_i hi
    cases e
    exact k _ (en.setFr hi r) fun vs h => wipe_set (h i (by simp [Tg.slots]))
  · cases e⟩
/-- a, b, .. = a tuple or a list of that length -/
def gSq (K : PySem.W.Frag) (n : Nat) (t : TGs) : TG := fun v σ H Q => ∃ a xs, v = .ref a ∧ (SqL K H a xs ∨ SqT K H a xs) ∧ xs.length = n ∧ t xs σ H Q
def gNames : List Nat → TGs
  | [] => gNil
  | i :: is => gCons (gName i) (gNames is)
theorem tg_names {H : Hp} : ∀ {is : List Nat} {ds : List D} {vs : List V} {δ δ' : Dl} {σ : St} {Q : St → Hp → Prop}, EnvR T B H δ σ → Reps T H ds vs → tgt is ds δ = some δ' →
    (∀ σ', EnvR T B H δ' σ' → (∀ ws, (∀ i ∈ is, i ∈ ws) → L2.wipe σ' ws = L2.wipe σ ws) → Q σ' H) → gNames is vs σ H Q
  | [], [], _, δ, δ', σ, Q, en, r, e, k => by
    cases e; cases r
    exact ⟨rfl, k σ en fun _ _ => rfl⟩
  | [], d :: ds, _, _, _, _, _, _, _, e, _ => by cases e
  | i :: is, [], _, _, _, _, _, _, _, e, _ => by cases e
  | i :: is, d :: ds, _, δ, δ', σ, Q, en, ⟨x, xs, e1, h, r⟩, e, k => by
    subst e1
    unfold tgt at e
    split at e
    · rename_i hi
      refine ⟨x, xs, rfl, ?_⟩
      refine tg_names (is := is) (en.setFr hi h) r e fun σ' en' w => k σ' en' fun ws hw => ?_
      rw [w ws fun j hj => hw j (List.mem_cons_of_mem _ hj)]
      exact wipe_set (hw i List.mem_cons_self)
    · cases e
theorem tgt_len : ∀ {is : List Nat} {ds : List D} {δ δ' : Dl}, tgt is ds δ = some δ' → is.length = ds.length
  | [], [], _, _, _ => rfl
  | [], _ :: _, _, _, e => by cases e
  | _ :: _, [], _, _, e => by cases e
  | i :: is, d :: ds, δ, δ', e => by
    unfold tgt at e
    split at e
    · simp [tgt_len e]
    · cases e
theorem tg_many {is : List Nat} {n : Nat} (hn : n = is.length) : TgOk T B (gSq T.K n (gNames is)) (.many is) := ⟨fun v d σ H δ δ' Q en r e k => by
  cases d with
  | tup ds =>
    obtain ⟨a, xs, rfl, sq, rr⟩ := r
    exact ⟨a, xs, rfl, .inr sq.sq, by rw [← Reps.length rr, hn]; exact (tgt_len e).symm, tg_names en rr e k⟩
  | lst ds =>
    obtain ⟨a, xs, rfl, sq, rr⟩ := r
    exact ⟨a, xs, rfl, .inl (.inl sq.rd), by rw [← Reps.length rr, hn]; exact (tgt_len e).symm, tg_names en rr e k⟩
  | _ => cases e⟩
end
end TT
end
section
set_option maxRecDepth 100000
set_option maxHeartbeats 4000000
/-! U7: what is walked; for, comprehensions, while. -/
namespace TT
open PySem PySem.Spec PyProof.Rows L2

/-- an iterator over data, in heaps that P allows -/
structure ItR (T : Tx) (P : Hp → Prop) (J : It) (ds : List D) : Prop where
  go : ∀ i H, P H → i < ds.length → J.go i H
  yld : ∀ i H x H', P H → J.yld i H x H' → ∀ d, ds[i]? = some d → Same H H' ∧ Rep T H' d x
  stop : ∀ i H, P H → i = ds.length → J.stop i H
/-- what a walk's source is: its items -/
abbrev Src := Dl → R (List D)
/-- lent: the heaps of a def's statements; of an expression alone -/
def okS (B H1 : Hp) : Hp → Prop := fun H => Mono H1 H ∧ Same B H
def okX (H1 : Hp) : Hp → Prop := fun H => Same H1 H
def iR (T : Tx) (W : WX) (B : Bs) (P : Hp → Hp → Prop) (src : Src) : TI := fun σ H R => ∃ δ, EnvR T B H δ σ ∧ Sat T W RlEq σ H (src δ) fun ds H1 => ∀ J, ItR T (P H1) J ds → R J H1

section
variable {X : Cx} {T : Tx} {W : WX} {B : Bs}
theorem PI.of {tg iter : Expr} {t t' : TI} (h : PI X tg iter t) (k : ∀ σ H R, t' σ H R → t σ H R) : PI X tg iter t' := ⟨fun pins s σ H R I q => h.run pins s σ H R I (k σ H R q)⟩
theorem PI.of3 {tg iter : Expr} {t1 t2 t3 t' : TI} (h1 : PI X tg iter t1) (h2 : PI X tg iter t2) (h3 : PI X tg iter t3) (k : ∀ σ H R, t' σ H R → t1 σ H R ∨ t2 σ H R ∨ t3 σ H R) : PI X tg iter t' :=
  ⟨fun pins s σ H R I q => (k σ H R q).elim (h1.run pins s σ H R I) fun q => q.elim (h2.run pins s σ H R I) (h3.run pins s σ H R I)⟩

/-! ### the sources -/
theorem it_list {P : Hp → Prop} {K : PySem.W.Frag} {a : Addr} {xs : List V} {ds : List D} (sq : ∀ H, P H → SqL K H a xs) (r : ∀ H, P H → Reps T H ds xs) : ItR T P (Itl K a) ds where
  go := fun i H p hi => by
    have hl := (r H p).length
    exact ⟨xs, xs[i]'(by omega), sq H p, by simp⟩
  yld := fun i H x H' p y d e => by
    obtain ⟨rfl, y⟩ := y
    obtain ⟨v, e1, e2⟩ := Reps.get (r _ p) e
    have := y xs (sq _ p)
    rw [e1] at this; cases this
    exact ⟨Same.refl, e2⟩
  stop := fun i H p e => ⟨xs, sq H p, by rw [e, (r H p).length]; exact Nat.le_refl _⟩
theorem it_tup {P : Hp → Prop} {K : PySem.W.Frag} {a : Addr} {xs : List V} {ds : List D} (sq : ∀ H, P H → SqT K H a xs) (r : ∀ H, P H → Reps T H ds xs) : ItR T P (Itt K a) ds where
  go := fun i H p hi => by
    have hl := (r H p).length
    exact ⟨xs, xs[i]'(by omega), sq H p, by simp⟩
  yld := fun i H x H' p y d e => by
    obtain ⟨rfl, y⟩ := y
    obtain ⟨v, e1, e2⟩ := Reps.get (r _ p) e
    have := y xs (sq _ p)
    rw [e1] at this; cases this
    exact ⟨Same.refl, e2⟩
  stop := fun i H p e => ⟨xs, sq H p, by rw [e, (r H p).length]; exact Nat.le_refl _⟩
/-- a text's signs -/
def signs (s : Str) : List D := s.cps.toList.map fun c => .str ⟨#[c]⟩
theorem it_str {P : Hp → Prop} {s : Str} : ItR T P (Its s) (signs s) where
  go := fun i H p hi => by
    have : i < s.cps.size := by simpa [signs] using hi
    exact this
  yld := fun i H x H' p y d e => by
    obtain ⟨rfl, c, e1, rfl⟩ := y
    refine ⟨Same.refl, ?_⟩
    unfold signs at e
    rw [List.getElem?_map, Array.getElem?_toList, e1] at e
    cases e
    rfl
  stop := fun i H p e => by
    show s.cps.size ≤ i
    rw [e]; simp [signs]
theorem it_range {P : Hp → Prop} {lo : Int} {n : Nat} : ItR T P (Itr lo n) ((List.range n).map fun k : Nat => D.int (lo + (k : Int))) where
  go := fun i H p hi => by
    have : i < n := by simpa using hi
    exact this
  yld := fun i H x H' p y d e => by
    obtain ⟨rfl, rfl⟩ := y
    refine ⟨Same.refl, ?_⟩
    rw [List.getElem?_map] at e
    cases e1 : (List.range n)[i]? with
    | none => rw [e1] at e; cases e
    | some k =>
      rw [e1] at e
      cases e
      have hk : k = i := by
        rw [List.getElem?_range] at e1
        · cases e1; rfl
        · have := (List.getElem?_eq_some_iff.mp e1).1
          simpa using this
      subst hk
      rfl
  stop := fun i H p e => by
    show n ≤ i
    rw [e]; simp
def itemsD : D → Option (List D)
  | .lst ds => some ds
  | .tup ds => some ds
  | .str s => some (signs s)
  | _ => none
/-- for x in e, in a statement: e's value is shared (or new) -/
def srcF (a : Ev Sl) : Src := fun δ => bnd (sF a δ) fun d => opt (itemsD d)
theorem pi_srcF (hK : X.K = T.K) {tg e : Expr} {a : Ev Sl} (h : PE X e (tE T W B a)) : PI X tg e (iR T W B (okS B.h) (srcF a)) := by
  have h2 := pe_sF h
  refine PI.of3 (pi_list h2) (pi_tup h2) (pi_str h2) fun σ H R ⟨δ, en, q⟩ => ?_
  -- what the value is
  have q2 : Sat T W (RlD T) σ H (sF a δ) fun v H1 => ∃ d, sF a δ = ok d ∧ RlD T H H1 d v ∧ Same H H1 ∧ Sat T W RlEq σ H (opt (itemsD d)) fun ds H1 => ∀ J, ItR T (okS B.h H1) J ds → R J H1 := Sat.seq q
  cases e1 : sF a δ with
  | none => rw [e1] at q2; exact q2.elim
  | some o =>
    cases o with
    | exc c xs => exact .inl ⟨δ, en, by rw [e1] at q2 ⊢; exact q2⟩
    | val d =>
      cases d with
      | lst ds =>
        refine .inl ⟨δ, en, q2.imp fun v H1 s1 ⟨d', e2, r, sm, k⟩ => ?_⟩
        rw [e1] at e2; cases e2
        obtain ⟨p, xs, rfl, sq, rr⟩ := r
        rw [hK]
        exact ⟨p, rfl, ⟨xs, .inl sq.rd⟩, k _ H1 sm rfl _ (it_list (xs := xs) (fun H hp => .inl (sq.mono hp.1).rd) fun H hp => Reps.mono hp.1 _ _ rr)⟩
      | tup ds =>
        refine .inr (.inl ⟨δ, en, q2.imp fun v H1 s1 ⟨d', e2, r, sm, k⟩ => ?_⟩)
        rw [e1] at e2; cases e2
        obtain ⟨p, xs, rfl, sq, rr⟩ := r
        rw [hK]
        exact ⟨p, rfl, ⟨xs, sq.sq⟩, k _ H1 sm rfl _ (it_tup (xs := xs) (fun H hp => (SqU.mono hp.1 sq).sq) fun H hp => Reps.mono hp.1 _ _ rr)⟩
      | str x =>
        refine .inr (.inr ⟨δ, en, q2.imp fun v H1 s1 ⟨d', e2, r, sm, k⟩ => ?_⟩)
        rw [e1] at e2; cases e2
        cases r
        exact ⟨x, rfl, k _ H1 sm rfl _ it_str⟩
      | _ =>
        -- nothing that is walked
        unfold srcF at q
        rw [e1] at q
        exact q.elim
/-- for x in a lent list, a name -/
def srcB (i : Nat) : Src := fun δ => match δ[i]? with
  | some (.bor ds) => ok ds
  | some (.lent m) => opt (mItems m)
  | _ => none
theorem pi_srcB (hK : X.K = T.K) {tg : Expr} {i : Nat} {x : Str} {pos : Pos} (h : PE X (.Name x pos) (tVar i)) : PI X tg (.Name x pos) (iR T W B (okS B.h) (srcB i)) := by
  refine PI.of (pi_list h) fun σ H R ⟨δ, en, q⟩ => ?_
  unfold srcB at q
  cases e : δ[i]? with
  | none => rw [e] at q; exact q.elim
  | some sl =>
    rw [e] at q
    obtain ⟨F, f⟩ := en.ex
    cases sl with
    | bor ds =>
      obtain ⟨a, xs, e1, e2, e3, _⟩ := f.slot i _ e
      rw [hK]
      refine ⟨.ref a, get_slot e1, a, rfl, ⟨xs, .inl (Rd.same en.same e2)⟩, q ds H Same.refl rfl _ (it_list (xs := xs) (fun H' hp => .inl (Rd.same hp.2 e2)) fun H' hp => Reps.mono hp.1 _ _ e3)⟩
    | lent m =>
      obtain ⟨⟨v, e1, e2⟩, _⟩ := f.slot i _ e
      cases e3 : mItems m with
      | none =>
        have q : Sat T W RlEq σ H (opt (mItems m)) _ := q
        rw [e3] at q; exact q.elim
      | some ds =>
        have q : Sat T W RlEq σ H (opt (mItems m)) _ := q
        rw [e3] at q
        obtain ⟨a, xs, rfl, s, r⟩ := mItems_w e2 e3
        rw [hK]
        refine ⟨.ref a, get_slot e1, a, rfl, ⟨xs, .inl (Rd.same en.same s)⟩, q ds H Same.refl rfl _ (it_list (xs := xs) (fun H' hp => .inl (Rd.same hp.2 s)) fun H' hp => Reps.mono (Same.mono hp.2) _ _ r)⟩
    | _ => exact q.elim
/-- in an expression: whatever is walked stands still meanwhile -/
def itemsS (a : Sl) : Option (List D) := match asSq a with
  | some ds => some ds
  | none => match a with
    | .fr (.str s) => some (signs s)
    | _ => none
def srcX (a : Ev Sl) : Src := fun δ => bnd (a δ) fun x => opt (itemsS x)
theorem pi_srcX (hK : X.K = T.K) {tg e : Expr} {a : Ev Sl} (h : PE X e (tE T W B a)) : PI X tg e (iR T W B okX (srcX a)) := by
  refine PI.of3 (pi_list h) (pi_tup h) (pi_str h) fun σ H R ⟨δ, en, q⟩ => ?_
  have q2 : Sat T W (SlV T B.h) σ H (a δ) fun v H1 => ∃ d, a δ = ok d ∧ SlV T B.h H H1 d v ∧ Same H H1 ∧ Sat T W RlEq σ H (opt (itemsS d)) fun ds H1 => ∀ J, ItR T (okX H1) J ds → R J H1 := Sat.seq q
  cases e1 : a δ with
  | none => rw [e1] at q2; exact q2.elim
  | some o =>
    cases o with
    | exc c xs => exact .inl ⟨δ, en, by rw [e1] at q2 ⊢; exact q2⟩
    | val x =>
      cases el : asL x with
      | some ds =>
        refine .inl ⟨δ, en, q2.imp fun v H1 s1 ⟨d', e2, r, sm, k⟩ => ?_⟩
        rw [e1] at e2; cases e2
        obtain ⟨p, xs, rfl, sq, rr⟩ := w_lst r.w el
        have ei : itemsS x = some ds := by unfold itemsS asSq; rw [el]
        rw [ei] at k
        rw [hK]
        exact ⟨p, rfl, ⟨xs, .inl sq⟩, k _ H1 sm rfl _ (it_list (xs := xs) (fun H hp => .inl (Rd.same hp sq)) fun H hp => Reps.mono (Same.mono hp) _ _ rr)⟩
      | none =>
        cases et : asT x with
        | some ds =>
          refine .inr (.inl ⟨δ, en, q2.imp fun v H1 s1 ⟨d', e2, r, sm, k⟩ => ?_⟩)
          rw [e1] at e2; cases e2
          obtain ⟨p, xs, rfl, sq, rr⟩ := w_tup r.w et
          have ei : itemsS x = some ds := by unfold itemsS asSq; rw [el, et]
          rw [ei] at k
          rw [hK]
          exact ⟨p, rfl, ⟨xs, sq.sq⟩, k _ H1 sm rfl _ (it_tup (xs := xs) (fun H hp => (SqU.mono (Same.mono hp) sq).sq) fun H hp => Reps.mono (Same.mono hp) _ _ rr)⟩
        | none =>
          cases x with
          | fr d => cases d with
            | str z =>
              refine .inr (.inr ⟨δ, en, q2.imp fun v H1 s1 ⟨d', e2, r, sm, k⟩ => ?_⟩)
              rw [e1] at e2; cases e2
              cases r
              exact ⟨z, rfl, k _ H1 sm rfl _ it_str⟩
            | lst _ => cases el
            | tup _ => cases et
            | _ => unfold srcX at q; rw [e1] at q; exact q.elim
          | own _ => cases el
          | bor _ => cases el
          | no => unfold srcX at q; rw [e1] at q; exact q.elim
          | dt _ _ => unfold srcX at q; rw [e1] at q; exact q.elim
          | dk _ _ => unfold srcX at q; rw [e1] at q; exact q.elim
          | mp _ => unfold srcX at q; rw [e1] at q; exact q.elim
          | deep m => exfalso; unfold srcX at q; rw [e1] at q; have q : Sat T W RlEq σ H (opt (itemsS (.deep m))) _ := q; rw [show itemsS (.deep m) = none by unfold itemsS asSq; rw [el, et]] at q; exact q
          | lent m => exfalso; unfold srcX at q; rw [e1] at q; have q : Sat T W RlEq σ H (opt (itemsS (.lent m))) _ := q; rw [show itemsS (.lent m) = none by unfold itemsS asSq; rw [el, et]] at q; exact q
          | view m => exfalso; unfold srcX at q; rw [e1] at q; have q : Sat T W RlEq σ H (opt (itemsS (.view m))) _ := q; rw [show itemsS (.view m) = none by unfold itemsS asSq; rw [el, et]] at q; exact q
/-- range(e) -/
def inR : Int → Bool
  | .ofNat n => Nat.ble n 4611686018427387903
  | .negSucc n => Nat.ble n 4611686018427387903
theorem inR_ok {i : Int} (h : inR i = true) : -(2 ^ 62) ≤ i ∧ i < 2 ^ 62 := by
  cases i with
  | ofNat n =>
    have := Nat.le_of_ble_eq_true h
    constructor
    · show -(2 ^ 62) ≤ (n : Int)
      omega
    · show (n : Int) < 2 ^ 62
      omega
  | negSucc n =>
    have := Nat.le_of_ble_eq_true h
    rw [Int.negSucc_eq]
    constructor <;> omega
def srcR1 (a : Ev Sl) : Src := fun δ => bnd (a δ) fun x => bnd (opt (asI x)) fun j => if inR j = true then ok ((List.range j.toNat).map fun k : Nat => D.int (0 + (k : Int))) else none
theorem pi_srcR1 {P : Hp → Hp → Prop} {tg e : Expr} {a : Ev Sl} {p pos : Pos} (hg : Gl X "range") (hm : X.mg "range" = none) (h : PE X e (tE T W B a)) (hs1 : starEach (e :: []) X.env = (false, eval e X.env) :: starEach [] X.env) :
    PI X tg (.Call (.Name "range" p) [e] [] pos) (iR T W B P (srcR1 a)) := by
  refine PI.of (pi_range1 hg hm (pa_cons h pa_nil hs1) (by rw [hs1]; rfl)) fun σ H R ⟨δ, en, q⟩ => ?_
  refine ⟨δ, en, (Sat.seq (rel := SlV T B.h) q).imp fun v H1 s1 ⟨x, e1, r, sm, k⟩ => ?_⟩
  cases e2 : asI x with
  | none => rw [e2] at k; exact k.elim
  | some j =>
    rw [e2] at k
    by_cases hj : inR j = true
    · have k : Sat T W RlEq σ H (if inR j = true then ok ((List.range j.toNat).map fun k : Nat => D.int (0 + (k : Int))) else none) _ := k
      rw [if_pos hj] at k
      obtain ⟨h1, h2⟩ := inR_ok hj
      exact ⟨j, by rw [r.int e2], h1, h2, k _ H1 sm rfl _ it_range⟩
    · have k : Sat T W RlEq σ H (if inR j = true then ok ((List.range j.toNat).map fun k : Nat => D.int (0 + (k : Int))) else none) _ := k
      rw [if_neg hj] at k; exact k.elim
def srcR2 (a b : Ev Sl) : Src := fun δ => bnd (a δ) fun x => bnd (b δ) fun y => bnd (opt (asI x)) fun i => bnd (opt (asI y)) fun j => if inR i && inR j then ok ((List.range (j - i).toNat).map fun k : Nat => D.int (i + (k : Int))) else none
theorem pi_srcR2 {P : Hp → Hp → Prop} {tg e e2 : Expr} {a b : Ev Sl} {p pos : Pos} (hg : Gl X "range") (hm : X.mg "range" = none) (h : PE X e (tE T W B a)) (h2 : PE X e2 (tE T W B b)) (hs1 : starEach (e :: [e2]) X.env = (false, eval e X.env) :: starEach [e2] X.env) (hs2 : starEach (e2 :: []) X.env = (false, eval e2 X.env) :: starEach [] X.env) :
    PI X tg (.Call (.Name "range" p) [e, e2] [] pos) (iR T W B P (srcR2 a b)) := by
  refine PI.of (pi_range2 hg hm (pa_cons h (pa_cons h2 pa_nil hs2) hs1) (by rw [hs1, hs2]; rfl) (by rw [hs2]; rfl)) fun σ H R q => ?_
  obtain ⟨δ, en, q⟩ := seq2 (T := T) (W := W) (B := B) (rel1 := SlV T B.h) (rel2 := SlV T B.h) (rel3 := RlEq) (okV T B.h) (okV T B.h) (a := a) (b := b) (k := fun x y => bnd (opt (asI x)) fun i => bnd (opt (asI y)) fun j => if inR i && inR j then ok ((List.range (j - i).toNat).map fun k : Nat => D.int (i + (k : Int))) else none) q
  refine ⟨δ, en, q.imp fun v H1 s1 ⟨δ', en', q'⟩ => ⟨δ', en', q'.imp fun w H2 s2 ⟨x, y, r1, r2, s, k⟩ => ?_⟩⟩
  cases e3 : asI x with
  | none => rw [e3] at k; exact k.elim
  | some i =>
    cases e4 : asI y with
    | none => rw [e3, e4] at k; exact k.elim
    | some j =>
      rw [e3, e4] at k
      have k : Sat T W RlEq σ H (if (inR i && inR j) = true then ok ((List.range (j - i).toNat).map fun k : Nat => D.int (i + (k : Int))) else none) _ := k
      by_cases hj : (inR i && inR j) = true
      · rw [if_pos hj] at k
        obtain ⟨h1, h2⟩ := Bool.and_eq_true_iff.mp hj
        obtain ⟨h3, h4⟩ := inR_ok h1
        obtain ⟨h5, h6⟩ := inR_ok h2
        exact ⟨i, j, by rw [r1.int e3, r2.int e4], ⟨h3, h4, h5, h6⟩, k _ H2 s rfl _ it_range⟩
      · rw [if_neg hj] at k; exact k.elim

/-! ### for -/
def forD (t : Tg) (body : Ex) : List D → Ex
  | [], δ => some (.nx δ)
  | d :: ds, δ => match t.put d δ with
    | none => none
    | some δ1 => thenX (body δ1) (forD t body ds)
def xFor (src : Src) (t : Tg) (body : Ex) : Ex := fun δ => thenS δ (src δ) fun ds => forD t body ds δ
theorem ps_xFor {tg iter : Expr} {sts : List Stmt} {src : Src} {g : TG} {t : Tg} {body : Ex} {pos : Pos} (hp : PassesOwn (model X.prog X.w) X.A X.env X.xe) (hc : X.calm = true) (hi : PI X tg iter (iR T W B (okS B.h) src)) (hg : PG X tg g) (tk : TgOk T B g t) (hb : PSs X sts (tS T W B body))
    (hs : ∀ x, foldedSetIterable iter X.env x = pure x) : PS X (.For tg iter sts [] pos) (tS T W B (xFor src t body)) := by
  refine PS.of (ps_for hp hc hi hg hb hs) fun De σ H ⟨δ, en, q⟩ => ⟨δ, en, ?_⟩
  refine (SatS.expr (rel := RlEq) en q).imp fun ds H1 s1 ⟨ds', e1, rl, sm, en1, k⟩ => ?_
  cases rl
  intro J it
  refine ⟨fun i m σ' H' => m = ds.length - i ∧ i ≤ ds.length ∧ ∃ δ', EnvR T B H' δ' σ' ∧ Mono H1 H' ∧ SatS T W B De H' (forD t body (ds.drop i) δ'), ⟨ds.length, by simp, Nat.zero_le _, δ, en1, Mono.refl, by simpa using k⟩, ?_⟩
  rintro i m σ' H' ⟨rfl, hi, δ', en', mo, k'⟩
  have hP : okS B.h H1 H' := ⟨mo, en'.same⟩
  by_cases hlt : i < ds.length
  · refine .inr ⟨it.go i H' hP hlt, fun σ2 H2 => ∃ δ2, EnvR T B H2 δ2 σ2 ∧ Mono H1 H2 ∧ SatS T W B De H2 (forD t body (ds.drop (i + 1)) δ2), fun σ2 H2 q => ⟨ds.length - (i + 1), by omega, rfl, hlt, q⟩, fun x H2 y => ?_⟩
    have ed : ds[i]? = some ds[i] := by simp [hlt]
    obtain ⟨s2, r2⟩ := it.yld i H' x H2 hP y _ ed
    rw [List.drop_eq_getElem_cons hlt] at k'
    unfold forD at k'
    cases e2 : t.put ds[i] δ' with
    | none => rw [e2] at k'; exact k'.elim
    | some δ1 =>
      rw [e2] at k'
      refine tk.put x ds[i] σ' H2 δ' δ1 _ (en'.keep s2) r2 e2 fun σ3 en3 _ => ⟨δ1, en3, ?_⟩
      have k' : SatS T W B De H' (thenX (body δ1) (forD t body (ds.drop (i + 1)))) := k'
      have m2 : Mono H' H2 := Same.mono s2
      cases e3 : body δ1 with
      | none => rw [e3] at k'; exact k'
      | some o =>
        rw [e3] at k'
        cases o with
        | nx δ2 => exact fun σ4 H4 en4 m4 => ⟨δ2, en4, (mo.trans m2).trans m4, SatS.weak (m2.trans m4) k'⟩
        | ret δ2 r => exact fun σ4 v Hm H4 en4 m4 => k' σ4 v Hm H4 en4 (m2.trans m4)
        | exc δ2 c xs => exact fun σ4 d H4 en4 m4 p => k' σ4 d H4 en4 (m2.trans m4) p
  · have e : i = ds.length := by omega
    refine .inl ⟨it.stop i H' hP e, ?_⟩
    rw [e, List.drop_length] at k'
    exact k' σ' H' en' Mono.refl

/-! ### while -/
/-- one turn: on, or the end -/
def turnW (c : Ev Bool) (body : Ex) : Dl → Sum Dl SR := fun δ => match c δ with
  | none => .inr none
  | some (.exc k xs) => .inr (some (.exc δ k xs))
  | some (.val false) => .inr (some (.nx δ))
  | some (.val true) => match body δ with
    | some (.nx δ') => .inl δ'
    | r => .inr r
/-- so many turns at most -/
def iterW (f : Dl → Sum Dl SR) : Nat → Dl → Option SR
  | 0, _ => none
  | n + 1, δ => match f δ with
    | .inl δ' => iterW f n δ'
    | .inr r => some r
open Classical in
/-- the end, if it comes -/
noncomputable def loopW (f : Dl → Sum Dl SR) (δ : Dl) : SR := if h : ∃ n r, iterW f n δ = some r then h.choose_spec.choose else none
theorem iterW_mono {f : Dl → Sum Dl SR} : ∀ {n m : Nat} {δ : Dl} {r : SR}, iterW f n δ = some r → n ≤ m → iterW f m δ = some r
  | 0, _, _, _, h, _ => by cases h
  | n + 1, 0, _, _, _, h => by omega
  | n + 1, m + 1, δ, r, h, hl => by
    unfold iterW at h ⊢
    cases e : f δ with
    | inl δ' => rw [e] at h; exact iterW_mono h (by omega)
    | inr r' => rw [e] at h; exact h
theorem loopW_of {f : Dl → Sum Dl SR} {n : Nat} {δ : Dl} {r : SR} (h : iterW f n δ = some r) : loopW f δ = r := by
  have hx : ∃ n r, iterW f n δ = some r := ⟨n, r, h⟩
  unfold loopW
  rw [dif_pos hx]
  have h2 := hx.choose_spec.choose_spec
  have a := iterW_mono h (Nat.le_max_left n hx.choose)
  have b := iterW_mono h2 (Nat.le_max_right n hx.choose)
  rw [a] at b
  exact (Option.some.inj b).symm
theorem loopW_eq {f : Dl → Sum Dl SR} {δ : Dl} : loopW f δ = match f δ with
    | .inl δ' => loopW f δ'
    | .inr r => r := by
  cases e : f δ with
  | inr r => exact loopW_of (n := 1) (by unfold iterW; rw [e])
  | inl δ' =>
    show loopW f δ = loopW f δ'
    by_cases h : ∃ n r, iterW f n δ' = some r
    · obtain ⟨n, r, h⟩ := h
      rw [loopW_of h, loopW_of (n := n + 1) (r := r) (by unfold iterW; rw [e]; exact h)]
    · have h2 : ¬ ∃ n r, iterW f n δ = some r := by
        rintro ⟨n, r, q⟩
        cases n with
        | zero => cases q
        | succ n =>
          unfold iterW at q
          rw [e] at q
          exact h ⟨n, r, q⟩
      unfold loopW
      rw [dif_neg h, dif_neg h2]
noncomputable def xWhile (c : Ev Bool) (body : Ex) : Ex := loopW (turnW c body)
theorem ps_xWhile {ce : Expr} {sts : List Stmt} {c : Ev Bool} {body : Ex} {pos : Pos} (hp : PassesOwn (model X.prog X.w) X.A X.env X.xe) (hc : PT X ce (tT T W B c)) (hb : PSs X sts (tS T W B body)) : PS X (.While ce sts [] pos) (tS T W B (xWhile c body)) := by
  refine PS.of (ps_while hp hc hb) fun De σ H ⟨δ, en, q⟩ => ?_
  -- it comes to an end
  have hx : ∃ n r, iterW (turnW c body) n δ = some r := by
    unfold xWhile loopW at q
    by_cases h : ∃ n r, iterW (turnW c body) n δ = some r
    · exact h
    · rw [dif_neg h] at q; exact q.elim
  obtain ⟨n, r, hn⟩ := hx
  have q : SatS T W B De H r := by
    have := loopW_of hn
    unfold xWhile at q
    rw [this] at q; exact q
  refine ⟨fun m σ' H' => ∃ δ', EnvR T B H' δ' σ' ∧ Mono H H' ∧ iterW (turnW c body) m δ' = some r, ⟨n, δ, en, Mono.refl, hn⟩, ?_⟩
  rintro m σ' H' ⟨δ', en', mo, it⟩
  refine ⟨δ', en', ?_⟩
  cases m with
  | zero => cases it
  | succ m =>
    unfold iterW turnW at it
    cases ec : c δ' with
    | none =>
      rw [ec] at it
      have e : (none : SR) = r := Option.some.inj it
      subst e
      exact q
    | some o =>
      rw [ec] at it
      cases o with
      | exc k xs =>
        have e : some (SO.exc δ' k xs) = r := Option.some.inj it
        subst e
        exact fun d H2 s p => q σ' d H2 (en'.keep s) (mo.trans (Same.mono s)) p
      | val b =>
        cases b with
        | false =>
          have e : some (SO.nx δ') = r := Option.some.inj it
          subst e
          intro v H2 s e2
          cases e2
          show De.nx σ' H2
          exact q σ' H2 (en'.keep s) (mo.trans (Same.mono s))
        | true =>
          intro v H2 s e2
          cases e2
          have m2 : Mono H H2 := mo.trans (Same.mono s)
          refine ⟨fun σ3 H3 => ∃ δ3, EnvR T B H3 δ3 σ3 ∧ Mono H H3 ∧ iterW (turnW c body) m δ3 = some r, fun σ3 H3 h => ⟨m, Nat.lt_succ_self _, h⟩, δ', en'.keep s, ?_⟩
          cases eb : body δ' with
          | none =>
            rw [eb] at it
            have e : (none : SR) = r := Option.some.inj it
            subst e
            exact q
          | some o =>
            rw [eb] at it
            cases o with
            | nx δ3 => exact fun σ3 H3 en3 m3 => ⟨δ3, en3, m2.trans m3, it⟩
            | ret δ3 v =>
              have e : some (SO.ret δ3 v) = r := Option.some.inj it
              subst e
              exact fun σ3 w Hm H3 en3 m3 => q σ3 w Hm H3 en3 (m2.trans m3)
            | exc δ3 k xs =>
              have e : some (SO.exc δ3 k xs) = r := Option.some.inj it
              subst e
              exact fun σ3 d H3 en3 m3 p => q σ3 d H3 en3 (m2.trans m3) p
end
end TT
end
section
set_option maxRecDepth 100000
set_option maxHeartbeats 4000000
/-! U8: list comprehensions; a list of one's own changed by its methods. -/
namespace TT
open PySem PySem.Spec PyProof.Rows L2

def noW : WX := fun _ _ _ _ => False
/-- the turns of a comprehension (nothing is raised within) -/
def compL (t : Tg) (cond : Ev Bool) (elt : Ev D) : List D → Dl → List D → R (List D)
  | [], _, acc => ok acc
  | d :: ds, δ, acc => match t.put d δ with
    | none => none
    | some δ1 => match cond δ1 with
      | some (.val true) => (match elt δ1 with
        | some (.val y) => if acc.length < sizeLine then compL t cond elt ds δ (acc ++ [y]) else none
        | _ => none)
      | some (.val false) => compL t cond elt ds δ acc
      | _ => none
def sComp (src : Src) (t : Tg) (vs : List Nat) (cond : Ev Bool) (elt : Ev D) : Ev Sl := fun δ => bnd (src δ) fun ds => bnd (compL t cond elt ds (wipeD δ vs) []) fun acc => ok (.own acc)
def sYes : Ev Bool := fun _ => ok true
theorem wipe_wipe {σ : St} {vs : List Nat} : ∀ {ws : List Nat}, (∀ w ∈ ws, w ∈ vs) → L2.wipe (L2.wipe σ ws) vs = L2.wipe σ vs
  | [], _ => rfl
  | w :: ws, h => by
    show L2.wipe ((L2.wipe σ ws).set w none) vs = _
    rw [wipe_set (h w List.mem_cons_self)]
    exact wipe_wipe fun x hx => h x (List.mem_cons_of_mem _ hx)
theorem mono_lst {H : Hp} {a : Addr} {xs ys : List V} (h : H a = some (.lst xs)) : Mono H (upd H a (.lst ys)) := fun b u e f => by
  rw [upd_ne (by rintro rfl; rw [h] at e; cases e; cases f)]; exact e
section
variable {X : Cx} {T : Tx} {W : WX} {B : Bs}
theorem pts_sYes : PTs X [] (tT T noW B sYes) := by
  have h : PTs X [] tYes := pts_nil
  exact ⟨fun pins s σ H Q I ⟨δ, en, q⟩ => h.run pins s σ H Q I (q true H Same.refl rfl)⟩
/-- what a comprehension's turns ask -/
theorem comp_read {src : Src} {g : TG} {t : Tg} {vs : List Nat} {cond : Ev Bool} {elt : Ev D} (tk : TgOk T B g t) (hv : ∀ i ∈ t.slots, i ∈ vs) {σ : St} {H : Hp} {Q : VK} (h : tE T W B (sComp src t vs cond elt) σ H Q) :
    tLc (iR T W B okX src) g (tT T noW B cond) (tD T noW B elt) vs σ H Q := by
  obtain ⟨δ, en, q⟩ := h
  refine ⟨δ, en, (Sat.seq (rel := RlEq) q).imp fun ds H1 s1 ⟨ds', e1, rl, sm, k⟩ => ?_⟩
  cases rl
  intro J it D hD
  have en1 : EnvR T B H1 (wipeD δ vs) (L2.wipe σ vs) := (en.keep s1).wipe vs
  have nD : H D = none := by
    cases q : H D with
    | none => rfl
    | some o => rw [sm _ _ q] at hD; cases hD
  refine ⟨fun i m H' => m = ds.length - i ∧ i ≤ ds.length ∧ ∃ av ad, H' D = some (.lst av) ∧ Reps T H' ad av ∧ Same H1 H' ∧ Sat T W (SlV T B.h) σ H (bnd (compL t cond elt (ds.drop i) (wipeD δ vs) ad) fun acc => ok (.own acc)) Q,
    ⟨ds.length, by simp, Nat.zero_le _, [], [], upd_same, rfl, Same.upd hD, by simpa using k⟩, ?_⟩
  rintro i m H' ⟨rfl, hi, av, ad, eD, rr, sH, k'⟩
  by_cases hlt : i < ds.length
  · refine .inr ⟨it.go i H' sH hlt, fun H2 => ∃ av ad, H2 D = some (.lst av) ∧ Reps T H2 ad av ∧ Same H1 H2 ∧ Sat T W (SlV T B.h) σ H (bnd (compL t cond elt (ds.drop (i + 1)) (wipeD δ vs) ad) fun acc => ok (.own acc)) Q,
      fun H2 q => ⟨ds.length - (i + 1), by omega, rfl, hlt, q⟩, fun x H2 y => ?_⟩
    have ed : ds[i]? = some ds[i] := by simp [hlt]
    obtain ⟨s2, r2⟩ := it.yld i H' x H2 sH y _ ed
    rw [List.drop_eq_getElem_cons hlt] at k'
    unfold compL at k'
    cases e2 : t.put ds[i] (wipeD δ vs) with
    | none => rw [e2] at k'; exact k'.elim
    | some δ1 =>
      rw [e2] at k'
      dsimp only at k'
      refine tk.put x ds[i] _ H2 (wipeD δ vs) δ1 _ ((en1.keep sH).keep s2) r2 e2 fun σ3 en3 hw => ⟨?_, δ1, en3, ?_⟩
      · rw [hw vs hv]; exact wipe_wipe fun w h => h
      · cases e3 : cond δ1 with
        | none => rw [e3] at k'; exact k'.elim
        | some o =>
          rw [e3] at k'
          cases o with
          | exc c xs => exact k'.elim
          | val b =>
            cases b with
            | false =>
              intro v H3 s3 ev
              cases ev
              exact ⟨av, ad, s3 _ _ (s2 _ _ eD), Reps.mono (Same.mono (Same.trans s2 s3)) _ _ rr, Same.trans sH (Same.trans s2 s3), k'⟩
            | true =>
              intro v H3 s3 ev
              cases ev
              show tD T noW B elt σ3 H3 _
              refine ⟨δ1, en3.keep s3, ?_⟩
              cases e4 : elt δ1 with
              | none => rw [e4] at k'; exact k'.elim
              | some o =>
                rw [e4] at k'
                cases o with
                | exc c xs => exact k'.elim
                | val y =>
                  intro w H4 s4 rw4
                  have s14 : Same H' H4 := Same.trans s2 (Same.trans s3 s4)
                  have eD4 : H4 D = some (.lst av) := s14 _ _ eD
                  have rr4 : Reps T H4 ad av := Reps.mono (Same.mono s14) _ _ rr
                  have k' : Sat T W (SlV T B.h) σ H (bnd (if ad.length < sizeLine then compL t cond elt (ds.drop (i + 1)) (wipeD δ vs) (ad ++ [y]) else none) fun acc => ok (.own acc)) Q := k'
                  by_cases hz : ad.length < sizeLine
                  · rw [if_pos hz] at k'
                    refine ⟨av, eD4, by rw [← rr4.length]; exact hz, av ++ [w], ad ++ [y], upd_same, Reps.mono (mono_lst eD4) _ _ (rr4.append (Reps.one rw4)), fun b o e => ?_, k'⟩
                    rw [upd_ne (ne_of_none e hD)]
                    exact Same.trans sH s14 b o e
                  · rw [if_neg hz] at k'; exact k'.elim
  · have e : i = ds.length := by omega
    refine .inl ⟨it.stop i H' sH e, ?_⟩
    rw [e, List.drop_length] at k'
    exact k' (.ref D) H' (Same.trans sm sH) ⟨D, av, rfl, nD, eD, rr⟩
theorem pe_sComp {elt tg iter : Expr} {ifs : List Expr} {scope : Scope} {own : List (Str × Nat)} {pos : Pos} {src : Src} {g : TG} {t : Tg} {cond : Ev Bool} {ev : Ev D} (hc : X.calm = true) (hN : X.N.Nodup) (hi : PI X tg iter (iR T W B okX src)) (ok : BlkOk X.N X.env.scope scope own)
    (tk : TgOk T B g t) (hv : ∀ i ∈ t.slots, i ∈ own.map (·.2))
    (hg : ∀ (s : Shared) (H : Hp) (C : Addr) (cl : List (Str × Addr)) (fp : List Addr), PG (X.blk s H scope (compEnvC scope cl C X.env) fp) tg g) (ht : ∀ (s : Shared) (H : Hp) (C : Addr) (cl : List (Str × Addr)) (fp : List Addr), PTs (X.blk s H scope (compEnvC scope cl C X.env) fp) ifs (tT T noW B cond))
    (he : ∀ (s : Shared) (H : Hp) (C : Addr) (cl : List (Str × Addr)) (fp : List Addr), PE (X.blk s H scope (compEnvC scope cl C X.env) fp) elt (tD T noW B ev)) (hs : ∀ x, foldedSetIterable iter X.env x = pure x) :
    PE X (.ListComp elt [⟨tg, iter, ifs, 0⟩] scope pos) (tE T W B (sComp src t (own.map (·.2)) cond ev)) :=
  PE.of (pe_lc hc hN hi ok hg ht he hs) fun σ H Q h => comp_read tk hv h
/-- x = [..] -/
theorem ps_xSetComp {i : Nat} {y : Str} {py : Pos} {elt tg iter : Expr} {ifs : List Expr} {scope : Scope} {own : List (Str × Nat)} {pos spos : Pos} {src : Src} {g : TG} {t : Tg} {cond : Ev Bool} {ev : Ev D} (hc : X.calm = true) (hN : X.N.Nodup) (hy : X.N[i]? = some y) (hyl : X.env.scope.names.lookup y = some .local)
    (hsw : swapsWith (.ListComp elt [⟨tg, iter, ifs, 0⟩] scope pos) (some (.Name y py)) spos.line X.env = pure true) (hi : PI X tg iter (iR T W B okX src)) (ok : BlkOk X.N X.env.scope scope own) (tk : TgOk T B g t) (hv : ∀ i ∈ t.slots, i ∈ own.map (·.2))
    (hg : ∀ (s : Shared) (H : Hp) (C : Addr) (cl : List (Str × Addr)) (fp : List Addr), PG (X.blk s H scope (compEnvC scope cl C X.env) fp) tg g) (ht : ∀ (s : Shared) (H : Hp) (C : Addr) (cl : List (Str × Addr)) (fp : List Addr), PTs (X.blk s H scope (compEnvC scope cl C X.env) fp) ifs (tT T noW B cond))
    (he : ∀ (s : Shared) (H : Hp) (C : Addr) (cl : List (Str × Addr)) (fp : List Addr), PE (X.blk s H scope (compEnvC scope cl C X.env) fp) elt (tD T noW B ev)) (hs : ∀ x, foldedSetIterable iter X.env x = pure x) :
    PS X (.Assign [.Name y py] (.ListComp elt [⟨tg, iter, ifs, 0⟩] scope pos) spos) (tS T W B (xSet i (sComp src t (own.map (·.2)) cond ev))) := by
  refine PS.of (ps_setLc hc hN hy hyl hsw hi ok hg ht he hs) fun De σ H ⟨δ, en, q⟩ => ?_
  refine comp_read (W := W) (T := T) (B := B) tk hv ⟨δ, en, ?_⟩
  refine (SatS.expr (rel := SlV T B.h) en q).imp fun v H1 s1 ⟨r, e1, rl, sm, en1, k⟩ => ?_
  exact env_store en sm rl k

/-! ### a list of one's own, changed -/
/-- what a method does to a list of one's own -/
structure MutOk (T : Tx) (f : List D → List D → Option (List D)) (r : V → List V → Hp → VK → Prop) : Prop where
  run : ∀ (ds args es : List D) (a : Addr) (xs vs : List V) (H : Hp) (Q : VK), f ds args = some es → H a = some (.lst xs) → Reps T H ds xs → Reps T H args vs → (∀ ys v, Reps T H es ys → Q v (upd H a (.lst ys))) → r (.ref a) vs H Q
def xMut (i : Nat) (as : Ev (List Sl)) (f : List D → List D → Option (List D)) : Ex := fun δ => match δ[i]? with
  | some (.own ds) => thenS δ (sFs as δ) fun args => (match f ds args with
    | some es => some (.nx (δ.set i (.own es)))
    | none => none)
  | _ => none
theorem ps_xMut {id : String} {name x : Str} {e : Expr} {es : List Expr} {f : List D → List D → Option (List D)} {as : Ev (List Sl)} {r : V → List V → Hp → VK → Prop} {i : Nat} {px apos cpos pos : Pos} (slot : Slot "list" name id) (hty : typeOf (.builtin id) = pure (.type "method_descriptor")) (hm : MtR X id r) (mo : MutOk T f r)
    (ho : PE X (.Name x px) (tVar i)) (ha : PA X (e :: es) (tA T W B as))
    (hfew : ((backTo cpos (starEach (e :: es) X.env)).all (fun x => !x.1) && (backToKw cpos (keywordEach [] X.env)).all (fun x => x.1.isSome)
      && decide ((e :: es).length + ([] : List Keyword).length + (if ([] : List Keyword).isEmpty then 0 else 1) < 30)) = true)
    (hline : (apos.endLine == cpos.line) = true) (hs : starEach (e :: es) X.env = (false, eval e X.env) :: starEach es X.env) (hplain : (backTo cpos (starEach es X.env)).any (·.1) = false) :
    PS X (.Expr (.Call (.Attribute (.Name x px) name apos) (e :: es) [] cpos) pos) (tS T W B (xMut i as f)) := by
  refine PS.of (ps_expr (pe_bm PySem.F.plainAttrs_list slot hty hm ho (pa_sFs ha) rfl hfew hline hs hplain) rfl) fun De σ H ⟨δ, en, q⟩ => ?_
  unfold xMut at q
  cases e1 : δ[i]? with
  | none => rw [e1] at q; exact q.elim
  | some sl =>
    rw [e1] at q
    cases sl with
    | own ds =>
      have q : SatS T W B De H (thenS δ (sFs as δ) fun args => (match f ds args with
        | some es => some (.nx (δ.set i (.own es)))
        | none => none)) := q
      obtain ⟨F, ff⟩ := en.ex
      obtain ⟨a, xs, f1, f2, f3, f4⟩ := ff.slot i _ e1
      refine ⟨.ref a, get_slot f1, .inl ⟨rfl, xs, .inl (.inl f2)⟩, δ, en, ?_⟩
      refine (SatS.expr (rel := RlDs T) en q).imp fun vs H1 s1 ⟨args, e2, rl, sm, en1, k⟩ => ?_
      cases e3 : f ds args with
      | none => rw [e3] at k; exact k.elim
      | some es =>
        rw [e3] at k
        refine mo.run ds args es a xs vs H1 _ e3 (sm _ _ f2) (Reps.mono (Same.mono sm) _ _ f3) rl fun ys v ry => ?_
        obtain ⟨en2, m2⟩ := en1.write (ys := ys) (es := es) e1 f1 (sm _ _ f2) ry
        exact k σ _ en2 m2
    | _ => exact q.elim
theorem ps_xMut0 {id : String} {name x : Str} {f : List D → List D → Option (List D)} {r : V → List V → Hp → VK → Prop} {i : Nat} {px apos cpos pos : Pos} (slot : Slot "list" name id) (hty : typeOf (.builtin id) = pure (.type "method_descriptor")) (hm : MtR X id r) (mo : MutOk T f r)
    (ho : PE X (.Name x px) (tVar i)) (hline : (apos.endLine == cpos.line) = true) :
    PS X (.Expr (.Call (.Attribute (.Name x px) name apos) [] [] cpos) pos) (tS T W B (xMut i sNil f)) := by
  refine PS.of (ps_expr (pe_bm0 PySem.F.plainAttrs_list slot hty hm ho rfl hline) rfl) fun De σ H ⟨δ, en, q⟩ => ?_
  unfold xMut at q
  cases e1 : δ[i]? with
  | none => rw [e1] at q; exact q.elim
  | some sl =>
    rw [e1] at q
    cases sl with
    | own ds =>
      have k : SatS T W B De H (match f ds [] with
        | some es => some (.nx (δ.set i (.own es)))
        | none => none) := q
      obtain ⟨F, ff⟩ := en.ex
      obtain ⟨a, xs, f1, f2, f3, f4⟩ := ff.slot i _ e1
      refine ⟨.ref a, get_slot f1, .inl ⟨rfl, xs, .inl (.inl f2)⟩, ?_⟩
      cases e3 : f ds [] with
      | none => rw [e3] at k; exact k.elim
      | some es =>
        rw [e3] at k
        refine mo.run ds [] es a xs [] H _ e3 f2 f3 rfl fun ys v ry => ?_
        obtain ⟨en2, m2⟩ := en.write (ys := ys) (es := es) e1 f1 f2 ry
        exact k σ _ en2 m2
    | _ => exact q.elim
def mApp : List D → List D → Option (List D) := fun ds args => match args with
  | [d] => if ds.length < sizeLine then some (ds ++ [d]) else none
  | _ => none
theorem mo_app : MutOk T mApp rAppend := ⟨fun ds args es a xs vs H Q e h r ra k => by
  unfold mApp at e
  split at e
  · split at e
    · rename_i d hz
      cases e
      obtain ⟨v, _, rfl, rv, rfl⟩ := ra
      exact ⟨a, xs, v, rfl, rfl, h, by rw [← r.length]; exact hz, k _ _ (r.append (Reps.one rv))⟩
    · cases e
  · cases e⟩
def mIns : List D → List D → Option (List D) := fun ds args => match args with
  | [.int i, d] => if ds.length < sizeLine ∧ 0 ≤ i ∧ i < 2 ^ 63 then some (ds.take i.toNat ++ [d] ++ ds.drop i.toNat) else none
  | _ => none
theorem mo_ins : MutOk T mIns (fun x vs H Q => ∃ (l : Addr) (xs : List V) (i : Int) (y : V), x = .ref l ∧ vs = [.int i, y] ∧ H l = some (.lst xs) ∧ xs.length < sizeLine ∧ 0 ≤ i ∧ i < 2 ^ 63 ∧
    Q .non (upd H l (.lst (xs.take i.toNat ++ [y] ++ xs.drop i.toNat)))) := ⟨fun ds args es a xs vs H Q e h r ra k => by
  unfold mIns at e
  split at e
  · split at e
    · rename_i i d hz
      cases e
      obtain ⟨v, _, rfl, rv, w, _, rfl, rw, rfl⟩ := ra
      cases rv
      exact ⟨a, xs, i, w, rfl, rfl, h, by rw [← r.length]; exact hz.1, hz.2.1, hz.2.2, k _ _ (((r.take _).append (Reps.one rw)).append (r.drop _))⟩
    · cases e
  · cases e⟩
def mPopAt : List D → List D → Option (List D) := fun ds args => match args with
  | [.int i] => if -(2 ^ 63) ≤ i ∧ i < 2 ^ 63 then (match seqIndex? i ds.length with
    | some k => if k < ds.length then some (ds.eraseIdx k) else none
    | none => none) else none
  | _ => none
theorem Reps.erase {H : Hp} : ∀ {ds : List D} {vs : List V} (k : Nat), Reps T H ds vs → Reps T H (ds.eraseIdx k) (vs.eraseIdx k)
  | [], _, _, h => by cases h; rfl
  | _ :: _, _, 0, ⟨x, xs, e, h, r⟩ => by subst e; exact r
  | _ :: _, _, k + 1, ⟨x, xs, e, h, r⟩ => by subst e; exact ⟨x, xs.eraseIdx k, rfl, h, Reps.erase k r⟩
theorem mo_popAt : MutOk T mPopAt rPopAt := ⟨fun ds args es a xs vs H Q e h r ra k => by
  unfold mPopAt at e
  split at e
  · split at e
    · rename_i i hz
      split at e
      · rename_i j ej
        split at e
        · rename_i hj
          cases e
          obtain ⟨v, _, rfl, rv, rfl⟩ := ra
          cases rv
          have hl : j < xs.length := by rw [← r.length]; exact hj
          exact ⟨a, xs, i, j, xs[j], rfl, rfl, h, hz.1, hz.2, by rw [← r.length]; exact ej, by simp [hl], k _ _ (r.erase j)⟩
        · cases e
      · cases e
    · cases e
  · cases e⟩
def mClear : List D → List D → Option (List D) := fun _ args => match args with
  | [] => some []
  | _ => none
theorem mo_clear : MutOk T mClear rClear := ⟨fun ds args es a xs vs H Q e h r ra k => by
  unfold mClear at e
  split at e
  · cases e
    cases ra
    exact ⟨a, xs, rfl, rfl, h, k _ _ rfl⟩
  · cases e⟩
def mPop : List D → List D → Option (List D) := fun ds args => match args with
  | [] => if ds ≠ [] then some ds.dropLast else none
  | _ => none
theorem Reps.dropLast {H : Hp} {ds : List D} {vs : List V} (r : Reps T H ds vs) : Reps T H ds.dropLast vs.dropLast := by
  rw [List.dropLast_eq_take, List.dropLast_eq_take, Reps.length r]
  exact r.take _
theorem mo_pop : MutOk T mPop rPop := ⟨fun ds args es a xs vs H Q e h r ra k => by
  unfold mPop at e
  split at e
  · split at e
    · rename_i hn
      cases e
      cases ra
      have hl : xs.length - 1 < xs.length := by
        have : ds.length ≠ 0 := fun z => hn (List.length_eq_zero_iff.mp z)
        have := r.length
        omega
      exact ⟨a, xs, xs[xs.length - 1], rfl, rfl, h, by simp [hl], k _ _ r.dropLast⟩
    · cases e
  · cases e⟩
/-- x[i] = e, x a list of one's own -/
def xSto (i : Nat) (ix a : Ev Sl) : Ex := fun δ => thenS δ (sF a δ) fun d => match δ[i]? with
  | some (.own ds) => thenS δ (ix δ) fun j => match asI j with
    | some j => (match ixN ds.length j with
      | some k => some (.nx (δ.set i (.own (ds.set k d))))
      | none => none)
    | none => none
  | _ => none
theorem ps_xSto {x : Str} {e ie : Expr} {ix a : Ev Sl} {i : Nat} {px tp pos : Pos} (ho : PE X (.Name x px) (tVar i)) (hi : PE X ie (tE T W B ix)) (he : PE X e (tE T W B a))
    (ha : ∀ v, assign (.Subscript (.Name x px) ie tp) X.env v = (do
      let ov ← holding [v] (eval (.Name x px) X.env)
      let iv ← holding [v, ov] (eval ie X.env)
      standAt tp
      holding [v, ov, iv] (setItem ov iv v)
      release [v, ov, iv] []))
    (hs : swapsWithSole [.Subscript (.Name x px) ie tp] e pos.line X.env = pure false) (hw : swappedStores [.Subscript (.Name x px) ie tp] e X.env = pure none) :
    PS X (.Assign [.Subscript (.Name x px) ie tp] e pos) (tS T W B (xSto i ix a)) := by
  refine PS.of (ps_asg (pe_sF he) (pg_sub ho hi set_list ha) hs hw rfl) fun De σ H ⟨δ, en, q⟩ => ⟨δ, en, ?_⟩
  refine (SatS.expr (rel := RlD T) en q).imp fun v H1 s1 ⟨d, e1, rd, sm, en1, k⟩ => ?_
  cases e2 : δ[i]? with
  | none => rw [e2] at k; exact k.elim
  | some sl =>
    rw [e2] at k
    cases sl with
    | own ds =>
      obtain ⟨F, ff⟩ := en1.ex
      obtain ⟨p, xs, f1, f2, f3, f4⟩ := ff.slot i _ e2
      refine ⟨.ref p, get_slot f1, δ, en1, ?_⟩
      have k : SatS T W B De H1 (thenS δ (ix δ) fun j => match asI j with
        | some j => (match ixN ds.length j with
          | some k => some (.nx (δ.set i (.own (ds.set k d))))
          | none => none)
        | none => none) := k
      refine (SatS.expr (rel := SlV T B.h) en1 k).imp fun w H2 s2 ⟨j, e3, rj, sm2, en2, k2⟩ => ?_
      cases e4 : asI j with
      | none => rw [e4] at k2; exact k2.elim
      | some jj =>
        rw [e4] at k2
        have k2 : SatS T W B De H2 (match ixN ds.length jj with
          | some k => some (.nx (δ.set i (.own (ds.set k d))))
          | none => none) := k2
        cases e5 : ixN ds.length jj with
        | none => rw [e5] at k2; exact k2.elim
        | some n =>
          rw [e5] at k2
          refine ⟨p, xs, jj, n, rfl, rj.int e4, sm2 _ _ f2, by rw [← f3.length]; exact e5, ?_⟩
          have r2 : Reps T H2 (ds.set n d) (xs.set n v) := (Reps.mono (Same.mono sm2) _ _ f3).set (Rep.mono (Same.mono sm2) _ _ rd) n
          obtain ⟨en3, m3⟩ := en2.write (ys := xs.set n v) (es := ds.set n d) e2 f1 (sm2 _ _ f2) r2
          exact k2 σ _ en3 m3
    | _ => exact k.elim
end
end TT
end
section
set_option maxRecDepth 100000
set_option maxHeartbeats 4000000
/-! U9: raise, try. -/
namespace TT
open PySem PySem.Spec PyProof.Rows L2

section
variable {X : Cx} {pins : List (Addr × Obj)} {σ : St} {H : Hp} {sI s : Shared} {a : Addr} {oe : Obj} {vs : Array Value} {cls : Value} {d : Option Addr}
/-- a caught exception is tracked from here on -/
theorem track (J : Inv X pins σ H sI) (I : Inv X pins σ H s) (ni : sI.heap.get? a = none) (he : s.heap.get? a = some oe) (hz : Zc cls d oe) (hd : oe.data = .fields vs) (na : H a = none) : Inv X pins σ (upd H a (exHO a cls d)) s := by
  have n0 : X.s_0.heap.get? a = none ∨ a ∈ X.ex := by
    by_cases hx : a ∈ X.ex
    · exact .inr hx
    · refine .inl ?_
      cases q : X.s_0.heap.get? a with
      | none => rfl
      | some o =>
        obtain ⟨o', e⟩ := J.base.there a o q hx
        rw [ni] at e; cases e
  have ne0 : ∀ b o, X.s_0.heap.get? b = some o → b ∉ X.ex → b ≠ a := fun b o e hx z => by
    subst z
    rcases n0 with q | q
    · rw [q] at e; cases e
    · exact hx q
  have neT : ∀ {b : Addr} {u : HO}, H b = some u → b ≠ a := fun e => ne_of_none e na
  have neI : ∀ b o, sI.heap.get? b = some o → b ≠ a := fun b o e z => by
    subst z; rw [ni] at e; cases e
  refine ⟨I.ok, I.os, I.bare, ⟨I.base.keep, I.base.slot, fun b o e n hx => ?_, I.base.there, fun b xs e => ?_, fun b o u e => ?_, fun b ps e => ?_⟩, I.loc, I.cell, ?_, fun x c e => ?_, fun p hp => ?_, fun b u e => ?_, I.len⟩
  · rw [upd_ne (ne0 b o e hx)]; exact I.base.free b o e n hx
  · have z := I.base.tups b xs e
    rw [upd_ne (neT z)]; exact z
  · have z := I.base.frzs b o u e
    rw [upd_ne (neT z)]; exact z
  · obtain ⟨m, z⟩ := I.base.tbls b ps e
    exact ⟨m, by rw [upd_ne (neT z)]; exact z⟩
  · have h1 : X.env.locals ≠ a := by
      obtain ⟨m, ⟨o, _, _, ho, _⟩, _⟩ := J.loc
      exact neI _ o ho
    rw [upd_ne h1]; exact I.free
  · obtain ⟨v, o, ho, _⟩ := J.cell x c e
    rw [upd_ne (neI _ o ho)]; exact I.freeC x c e
  · obtain ⟨e, n, q⟩ := I.pin p hp
    have h1 : p.1 ≠ a := neI _ _ (J.pin p hp).1
    exact ⟨e, by rw [upd_ne h1]; exact n, q⟩
  · by_cases hb : b = a
    · subst hb
      rw [upd_same] at e; cases e
      refine ⟨⟨oe, vs, he, hz, hd⟩, ⟨oe, he⟩, fun h1 h2 k1 k2 => ?_⟩
      obtain ⟨o1, v1, e1, z1, d1⟩ := k1
      exact ⟨o1, v1, k2 _ e1, z1, d1⟩
    · rw [upd_ne hb] at e
      exact (I.hok b u e).stay (fun c v _ r => r) (fun c r => by rw [upd_ne (neT r)]; exact r) fun c xs r => by rw [upd_ne (neT r)]; exact r
/-- into an except suite, and out of it -/
theorem into (I : Inv X pins σ H s) (a : Addr) : Inv (X.suite a (X.pn ++ pins)) [] σ H s :=
  ⟨I.ok.suite _ _, I.os, I.bare, I.base, I.loc, I.cell, I.free, I.freeC, fun p hp => I.pin p (by rw [List.append_nil] at hp; exact hp), I.hok, I.len⟩
theorem outof (I : Inv (X.suite a (X.pn ++ pins)) [] σ H s) (ok : X.Ok) : Inv X pins σ H s :=
  ⟨ok, I.os, I.bare, I.base, I.loc, I.cell, I.free, I.freeC, fun p hp => I.pin p (by rw [List.append_nil]; exact hp), I.hok, I.len⟩
end

/-- one except clause: its class, its name's slot, its suite's reading -/
structure Hd where
  c : Value
  sl : Option Nat
  ts : TS
def sSet (sl : Option Nat) (o : Option V) (σ : St) : St := match sl with
  | none => σ
  | some i => σ.set i o
def dEnd (sl : Option Nat) (De : Ends) : Ends := { nx := fun σ H => De.nx (sSet sl none σ) H, rt := De.rt, bk := fun σ H => De.bk (sSet sl none σ) H, ct := fun σ H => De.ct (sSet sl none σ) H }
def wT (K : PySem.W.Frag) (Wout : WX) (De : Ends) : List Hd → WX
  | [] => Wout
  | h :: r => fun cls d σ H => ∃ b, PySem.W.exmOne K cls h.c = some b ∧ (b = true → ∀ a, H a = none → h.ts (dEnd h.sl De) (sSet h.sl (some (.ref a)) σ) (upd H a (exHO a cls d))) ∧ (b = false → wT K Wout De r cls d σ H)
/-- the name of a clause -/
def NmOk (X : Cx) : Option Str → Option Nat → Prop
  | none, none => True
  | some n, some i => X.N[i]? = some n ∧ X.env.kindOf n = some .local
  | _, _ => False
inductive Hds (X : Cx) : List ExceptHandler → List Hd → Prop
  | nil : Hds X [] []
  | cons {x : Str} {h : Hd} {nm : Option Str} {b0 : Stmt} {su : List Stmt} {np p' : Pos} {es : List ExceptHandler} {l : List Hd} (hc : Names X x h.c) (hn : NmOk X nm h.sl)
      (hsu : ∀ (a : Addr) (pn : List (Addr × Obj)), PSs (X.suite a pn) (b0 :: su) h.ts) (r : Hds X es l) : Hds X (.ExceptHandler (some (.Name x np)) nm (b0 :: su) p' :: es) (h :: l)
section
variable {X : Cx} {body : List Stmt} {h0 : ExceptHandler} {es : List ExceptHandler} {l : List Hd} {pos : Pos} {tb : WX → TS} {Wout : WX}
theorem ps_try_T (hs : X.stack = X.env :: X.outer) (hf : X.env.frame = some X.env.locals) (hN : X.N.Nodup) (tk : Takes X Wout)
    (hb : ∀ (W : WX) (pn : List (Addr × Obj)) (xe : Value → Shared → Prop), Takes (X.tr pn xe) W → PassesOwn (model X.prog X.w) X.A X.env xe → PSs (X.tr pn xe) body (tb W))
    (hh : Hds X (h0 :: es) l) : PS X (.Try body (h0 :: es) [] [] pos) (fun De σ H => tb (wT X.K Wout De l) De σ H) := by
  refine ⟨fun pins s σ H De I h => ?_⟩
  have ok := I.ok
  have fr : X.A.frames = some (X.env :: X.outer) := by rw [ok.frames, hs]
  refine wpAny_Try_except ?_
  have hb' := hb (wT X.K Wout De l) (X.pn ++ pins) (fun e s1 => wpAny (model X.prog X.w) X.A (noteFrame e X.env) (fun _ s2 =>
    wpAny (model X.prog X.w) X.A (setFlight e none) (fun _ s3 => wpAny (model X.prog X.w) X.A (handleBy e X.env (h0 :: es)) (SP X pins De) X.xe s3) X.xe s2) X.xe s1)
    (fun u s' xx => ?_) PassesOwn.looking
  · refine wpAny_mono (hb'.run [] s σ H De (I.toTry _) h) (fun f s1 q => ?_) (fun e s1 he => he)
    cases f with
    | next => obtain ⟨σ', H', J, q⟩ := q; exact wpAny_execs_nil ⟨σ', H', J.ofTry ok, q⟩
    | brk => obtain ⟨σ', H', J, q⟩ := q; exact ⟨σ', H', J.ofTry ok, q⟩
    | cont => obtain ⟨σ', H', J, q⟩ := q; exact ⟨σ', H', J.ofTry ok, q⟩
    | ret u => obtain ⟨v, σ', H', J, r, q⟩ := q; exact ⟨v, σ', H', J.ofTry ok, r, q⟩
  · obtain ⟨a, B, sI, pins', σ', H', cls, d, rfl, J', nb, up, sky, na, os, ag, w⟩ := xx
    have J : Inv X pins σ' H' sI := J'.ofTry ok
    have sk : Sky B (X.env :: X.outer) a (Zc cls d) X.env.locals s'.heap := by rw [← hs]; exact sky
    show wpAny (model X.prog X.w) X.A (noteFrame (.ref a) X.env) _ _ _
    refine Sky.land Zc.steady fr hf sk fun h3 f3 up3 => ?_
    have J3 : Inv X pins σ' H' { s' with heap := h3 } := J.landed nb f3.1 (up.trans up3) os ag
    obtain ⟨o3, v3, e3, z3, d3⟩ := f3.there
    -- where the exception stands nothing stood
    have nfr : a ∉ frs X.stack := fun hm => by
      rw [hs] at hm
      obtain ⟨_, o', e', hnf⟩ := f3.2.2.1.mem hm
      rw [e3] at e'; cases e'
      exact hnf _ d3
    have ni : sI.heap.get? a = none := by
      cases q : sI.heap.get? a with
      | none => rfl
      | some o =>
        have z := nb a o q nfr
        have hB : B.get? a = none := f3.2.1
        rw [hB] at z; cases z
    have go : ∀ {es' : List ExceptHandler} {l' : List Hd}, Hds X es' l' → wT X.K Wout De l' cls d σ' H' → wpAny (model X.prog X.w) X.A (handleBy (.ref a) X.env es') (SP X pins De) X.xe { s' with heap := h3 } := by
      intro es' l' hk
      induction hk with
      | nil =>
        intro w
        refine wpAny_handleBy_nil ?_
        obtain ⟨k1, k2, k3, oe, vs, Tr, oT, ts', he, hz, hd, h1, hr⟩ := id f3
        unfold PySem.passOn
        refine wpAny_bind (wpAny_field he hd h1 ?_)
        rw [if_neg (show ¬ ((Value.ref Tr == Value.none) = true) by simp)]
        have fin : wpAny (model X.prog X.w) X.A (setFlight (.ref a) X.env.frame) (fun _ s4 => wpAny (model X.prog X.w) X.A (throw (.ref a) : Sem Flow) (SP X pins De) X.xe s4) X.xe { s' with heap := h3 } := by
          rw [hf]
          refine HandSPX.setFlight_upZ f3 fun h4 hh4 up4 => wpAny_throw (tk _ _ ?_)
          exact ⟨a, B, sI, pins, σ', H', cls, d, rfl, J, nb, (up.trans up3).trans up4, .inr (.inr (by rw [hs]; exact hh4)), na, os, ag, w⟩
        first
          | exact wpAny_bind (wpAny_pure (wpAny_bind fin))
          | exact wpAny_bind fin
      | @cons x h nm b0 su np p' es2 l2 hc hn hsu r ih =>
        intro w
        obtain ⟨b, hb1, yes, no⟩ := w
        refine wpAny_handleBy_cons (codeAny_handlers_test ?_) (by intro q; cases q)
        have LT : PySem.W.Looks (model X.prog X.w) h3 (typeOf (.ref a)) cls := fun A Q E s k q => wpAny_typeOf_ref (k _ _ e3) (by rw [z3.1]; exact q)
        have LM := PySem.W.exm_one (M := model X.prog X.w) J3.kIn LT hb1
        have S3 := into J3 a
        have test : ∀ {Q : Value → Shared → Prop} {E : Value → Shared → Prop}, Q h.c { s' with heap := h3 } → wpAny (model X.prog X.w) (X.A.mark (some (.ref a))) (eval (.Name x np) X.env) Q E { s' with heap := h3 } := fun {Q E} q => by
          obtain ⟨hg, hdb, hm | ⟨hm, hv, hnn⟩⟩ := hc
          · exact ld_glob (X := X.suite a (X.pn ++ pins)) S3 hg hm q hdb
          · exact ld_blt (X := X.suite a (X.pn ++ pins)) S3 hg hm hv q hnn hdb
        refine test (LM.here ?_)
        cases b with
        | false =>
          show wpAny _ X.A (handleBy (.ref a) X.env es2) _ _ _
          exact ih (no rfl)
        | true =>
          -- the suite, from a state in which the exception is tracked
          have run : ∀ {h4 : Heap} {Q : Flow → Shared → Prop} {σ5 : St} {s5 : Shared}, Inv (X.suite a (X.pn ++ pins)) [] σ5 (upd H' a (exHO a cls d)) s5 → h.ts (dEnd h.sl De) σ5 (upd H' a (exHO a cls d)) → (∀ f s6, SP (X.suite a (X.pn ++ pins)) [] (dEnd h.sl De) f s6 → Q f s6) →
              wpAny (model X.prog X.w) (X.A.mark (some (.ref a))) (execs (b0 :: su) X.env) Q (fun _ _ => False) s5 := fun {h4 Q σ5 s5} S5 q k => wpAny_mono ((hsu a (X.pn ++ pins)).run [] s5 σ5 _ _ S5 q) k fun _ _ z => z
          cases hsl : h.sl with
          | none =>
            cases nm with
            | some n => rw [hsl] at hn; exact hn.elim
            | none =>
              refine codeAny_handlers_suite ?_
              refine HandSPX.lands_againZ f3 fun h4 f4 up4 => ?_
              have J4 : Inv X pins σ' H' { s' with heap := h4 } := J.landed nb f4.1 ((up.trans up3).trans up4) os ag
              obtain ⟨o4, v4, e4, z4, d4⟩ := f4.there
              have T4 := track J J4 ni e4 z4 d4 na
              have q := yes rfl a na
              rw [hsl] at q
              refine wpAny_mono ((hsu a (X.pn ++ pins)).run [] _ _ _ _ (into T4 a) q) (fun f s6 hsp => ?_) (fun _ _ z => z.elim)
              cases f with
              | next => obtain ⟨σ6, H6, S6, q6⟩ := hsp; exact ⟨_, _, outof S6 ok, q6⟩
              | brk => obtain ⟨σ6, H6, S6, q6⟩ := hsp; exact ⟨_, _, outof S6 ok, q6⟩
              | cont => obtain ⟨σ6, H6, S6, q6⟩ := hsp; exact ⟨_, _, outof S6 ok, q6⟩
              | ret u => obtain ⟨v6, σ6, H6, S6, r6, q6⟩ := hsp; exact ⟨_, _, _, outof S6 ok, r6, q6⟩
          | some i =>
            cases nm with
            | none => rw [hsl] at hn; exact hn.elim
            | some n =>
              rw [hsl] at hn
              obtain ⟨hi, hln⟩ := hn
              have hloc : Loc X.env.scope n := .inl hln
              refine codeAny_handlers_suite_as ?_
              refine HandSPX.lands_againZ f3 fun h4 f4 up4 => ?_
              have J4 : Inv X pins σ' H' { s' with heap := h4 } := J.landed nb f4.1 ((up.trans up3).trans up4) os ag
              obtain ⟨o4, v4, e4, z4, d4⟩ := f4.there
              have T4 := track J J4 ni e4 z4 d4 na
              have q := yes rfl a na
              rw [hsl] at q
              refine store_ok (X := X.suite a (X.pn ++ pins)) (v := .ref a) (into T4 a) hN hi hloc rfl (fun s5 S5 => ?_) (.inr hln)
              refine wpAny_mono ((hsu a (X.pn ++ pins)).run [] s5 _ _ _ S5 q) (fun f s6 hsp => ?_) (fun _ _ z => z.elim)
              have end_ : ∀ {σ6 : St} {H6 : Hp} {Q : Shared → Prop}, Inv (X.suite a (X.pn ++ pins)) [] σ6 H6 s6 → (∀ s7, Inv X pins (σ6.set i none) H6 s7 → Q s7) →
                  wpAny (model X.prog X.w) X.A (do bindName X.env n .none; unbindBehindTheSuite X.env n p') (fun _ s7 => Q s7) X.xe s6 := fun {σ6 H6 Q} S6 hq => gone_ok (outof S6 ok) hN hi hln hq
              cases f with
              | next => obtain ⟨σ6, H6, S6, q6⟩ := hsp; exact end_ S6 fun s7 J7 => ⟨_, _, J7, q6⟩
              | brk => obtain ⟨σ6, H6, S6, q6⟩ := hsp; exact end_ S6 fun s7 J7 => ⟨_, _, J7, q6⟩
              | cont => obtain ⟨σ6, H6, S6, q6⟩ := hsp; exact end_ S6 fun s7 J7 => ⟨_, _, J7, q6⟩
              | ret u => obtain ⟨v6, σ6, H6, S6, r6, q6⟩ := hsp; exact end_ S6 fun s7 J7 => ⟨_, _, _, J7, r6, q6⟩
    exact go hh w
end
end TT
end
section
set_option maxRecDepth 100000
set_option maxHeartbeats 4000000
/-! U10: raise and try upon data; isinstance; some built-ins. -/
namespace TT
open PySem PySem.Spec PyProof.Rows L2

/-- one except clause upon data: its class, its name's slot, its suite -/
structure Hc where
  c : Nat
  sl : Option Nat
  ex : Ex
def offS : SR → SR
  | some (.exc _ _ _) => none
  | r => r
def postS (i : Nat) : SR → SR
  | some (.nx δ) => some (.nx (δ.set i .no))
  | r => r
def catchS (sub : Nat → Nat → Bool) : List Hc → Dl → Nat → List D → SR
  | [], δ, c, xs => some (.exc δ c xs)
  | h :: r, δ, c, xs => if sub c h.c = true then (match h.sl with
      | none => offS (h.ex δ)
      | some i => if i < δ.length then postS i (offS (h.ex (δ.set i (.fr (.exc c xs))))) else none)
    else catchS sub r δ c xs
def xTry (sub : Nat → Nat → Bool) (body : Ex) (hs : List Hc) : Ex := fun δ => match body δ with
  | some (.exc δ' c xs) => catchS sub hs δ' c xs
  | r => r
/-- `raise C('..')` -/
def xRaise0 (c : Nat) : Ex := fun δ => some (.exc δ c [])
/-- `raise C(e)` -/
def xRaise1 (c : Nat) (a : Ev Sl) : Ex := fun δ => thenS δ (sF a δ) fun d => some (.exc δ c [d])
def spInit (K : PySem.W.Frag) (f : Str) : Sp := fun vs H Q _ => ∃ (a C : Addr) (y : V), vs = [.ref a, y] ∧ OexC K C ∧ PySem.W.findIn K (.ref C) f = some none ∧ H a = some (exo a C none) ∧
  ∀ dx, H dx = none → dx ≠ a → Q .non (upd (upd H dx (exd dx [(f, y)])) a (exo a C (some dx)))
section
variable {X : Cx} {T : Tx} {W : WX} {B : Bs}
theorem exc_rep {H : Hp} {a : Addr} {c : Nat} {xs : List D} {d : Option Addr} (na : H a = none) (p : PayR T H c xs d) : Rep T (upd H a (exHO a (.ref (T.eA c)) d)) (.exc c xs) (.ref a) := by
  have m : Mono H (upd H a (exHO a (.ref (T.eA c)) d)) := Same.mono (Same.upd na)
  rcases p with ⟨rfl, rfl⟩ | ⟨x, v, dx, rfl, rfl, e, r⟩
  · exact ⟨a, none, [], rfl, upd_same, .inl ⟨rfl, rfl⟩, rfl⟩
  · exact ⟨a, some dx, [v], rfl, upd_same, .inr ⟨v, dx, rfl, rfl, m _ _ e rfl⟩, v, [], rfl, Rep.mono m _ _ r, rfl⟩
theorem SatS.off {De : Ends} {H : Hp} {r : SR} (h : SatS T W B De H (offS r)) : SatS T noW B De H r := by
  cases r with
  | none => exact h
  | some o =>
    cases o with
    | nx δ => exact h
    | ret v => exact h
    | exc δ c xs => exact h.elim
/-- what a try's clauses are, upon data -/
def toHd (T : Tx) (B : Bs) (h : Hc) : Hd := ⟨.ref (T.eA h.c), h.sl, tS T noW B h.ex⟩
theorem catch_read {sub : Nat → Nat → Bool} (hs : ∀ c e, PySem.W.exmOne T.K (.ref (T.eA c)) (.ref (T.eA e)) = some (sub c e)) {De : Ends} {σ : St} {H Hs : Hp} {c : Nat} {xs : List D} {d : Option Addr} {δ : Dl} (en : EnvR T B H δ σ) (m : Mono Hs H) (p : PayR T H c xs d) : ∀ {l : List Hc},
    SatS T W B De Hs (catchS sub l δ c xs) → wT T.K W De (l.map (toHd T B)) (.ref (T.eA c)) d σ H
  | [], q => q σ d H en m p
  | h :: r, q => by
    refine ⟨sub c h.c, hs c h.c, fun e a na => ?_, fun e => ?_⟩
    · unfold catchS at q
      rw [if_pos e] at q
      have sm : Same H (upd H a (exHO a (.ref (T.eA c)) d)) := Same.upd na
      obtain ⟨hc, sl, ex⟩ := h
      cases sl with
      | none => exact ⟨δ, en.keep sm, SatS.weak (m.trans (Same.mono sm)) (SatS.off q)⟩
      | some i =>
        dsimp only at q
        by_cases hi : i < δ.length
        · rw [if_pos hi] at q
          refine ⟨δ.set i (.fr (.exc c xs)), (en.keep sm).setFr hi (exc_rep na p), ?_⟩
          show SatS T noW B (dEnd (some i) De) _ (ex (δ.set i (.fr (.exc c xs))))
          cases e2 : ex (δ.set i (.fr (.exc c xs))) with
          | none => rw [e2] at q; exact q
          | some o =>
            rw [e2] at q
            cases o with
            | exc δ2 k ys => exact q.elim
            | ret δ2 v => exact fun σ2 w Hm H2 en2 m2 => q σ2 w Hm H2 en2 ((m.trans (Same.mono sm)).trans m2)
            | nx δ2 =>
              intro σ2 H2 en2 m2
              show De.nx (σ2.set i none) H2
              have q : SatS T W B De Hs (some (.nx (δ2.set i .no))) := q
              refine q _ H2 ?_ ((m.trans (Same.mono sm)).trans m2)
              by_cases h2 : i < δ2.length
              · exact en2.setNo h2
              · rw [List.set_eq_of_length_le (by omega), List.set_eq_of_length_le (by rw [← en2.len]; omega)]
                exact en2
        · rw [if_neg hi] at q; exact q.elim
    · unfold catchS at q
      rw [if_neg (by rw [e]; exact Bool.false_ne_true)] at q
      exact catch_read hs en m p q
theorem ps_xTry (hK : X.K = T.K) {sub : Nat → Nat → Bool} (hsub : ∀ c e, PySem.W.exmOne T.K (.ref (T.eA c)) (.ref (T.eA e)) = some (sub c e)) {body : List Stmt} {h0 : ExceptHandler} {es : List ExceptHandler} {l : List Hc} {pos : Pos} {b : Ex} (hs : X.stack = X.env :: X.outer) (hf : X.env.frame = some X.env.locals) (hN : X.N.Nodup) (tk : Takes X W)
    (hb : ∀ (W : WX) (pn : List (Addr × Obj)) (xe : Value → Shared → Prop), Takes (X.tr pn xe) W → PassesOwn (model X.prog X.w) X.A X.env xe → PSs (X.tr pn xe) body (tS T W B b))
    (hh : Hds X (h0 :: es) (l.map (toHd T B))) : PS X (.Try body (h0 :: es) [] [] pos) (tS T W B (xTry sub b l)) := by
  refine PS.of (ps_try_T (tb := fun W => tS T W B b) hs hf hN tk hb hh) fun De σ H ⟨δ, en, q⟩ => ⟨δ, en, ?_⟩
  unfold xTry at q
  rw [hK]
  cases e : b δ with
  | none => rw [e] at q; exact q
  | some o =>
    rw [e] at q
    cases o with
    | nx δ' => exact q
    | ret r => exact q
    | exc δ' c xs =>
      intro σ' d H' en' m p
      exact catch_read hsub en' m p q
theorem ps_xRaise0 {x m : Str} {j : Nat} {c : Nat} {bmB : List Value} {Bn newId initId : String} {p p2 p3 pos : Pos} (F : ExcBaseFacts Bn newId initId bmB) (q : PySem.W.excIn X.K (T.eA c) bmB newId = true) (gC : X.mg x = some (.ref (T.eA c))) (kC : PySem.W.keepIn X.K (.ref (T.eA c)) = true) (r : Raises X (.ref (T.eA c))) (hg : Gl X x) (hdb : (x == ("__debug__" : Str)) = false)
    (hc : X.calm = true) (tk : Takes X W) : PS X (.Raise (some (.Call (.Name x p) [.Constant (.str m) j p2] [] p3)) none pos) (tS T W B (xRaise0 c)) :=
  PS.of (ps_raise hc tk (pmk_own F q gC kC r hg hdb)) fun De σ H ⟨δ, en, k⟩ => k σ none H en Mono.refl (.inl ⟨rfl, rfl⟩)
theorem ps_xRaise1 {x : Str} {e : Expr} {a : Ev Sl} {c : Nat} {k : Nat} {fI : Addr} {fd : FuncData} {ps : List Str} {CX : CXT} {p p3 pos : Pos} (O : OexC X.K (T.eA c)) (hno : PySem.W.findIn X.K (.ref (T.eA c)) (T.eF c) = some none) (iC : PySem.W.findIn X.K (.ref (T.eA c)) "__init__" = some (some (.ref fI))) (tI : PySem.W.typeIn X.K (.ref fI) = some (.type "function"))
    (F1 : FnOk X.prog X.w X.K X.mg X.base CX k fI fd ps (spInit X.K (T.eF c))) (hr : Room (k + 1) X.A) (hb : Binds X.K fd ps []) (hx : Passes CX X (fun _ _ _ => False)) (hg : Gl X x) (hm : X.mg x = some (.ref (T.eA c))) (he : PE X e (tE T W B a)) (hdb : (x == ("__debug__" : Str)) = false)
    (hst : starEach (e :: []) X.env = (false, eval e X.env) :: starEach [] X.env) (hc : X.calm = true) (tk : Takes X W) : PS X (.Raise (some (.Call (.Name x p) [e] [] p3)) none pos) (tS T W B (xRaise1 c a)) := by
  refine PS.of (ps_raise hc tk (pmk_oex O iC tI F1 hr hb .nil hx hg hm (pa_cons (pe_sF he) pa_nil hst) hdb hst rfl)) fun De σ H ⟨δ, en, q⟩ => ⟨δ, en, ?_⟩
  refine (SatS.expr (rel := RlD T) en q).imp fun v H1 s1 ⟨d, e1, rd, sm, en1, k⟩ => ?_
  refine ⟨by show 1 ≤ 1000; decide, fun b nb => ⟨b, T.eA c, v, rfl, O, hno, upd_same, fun dx hdx ne => ?_⟩⟩
  have hdx' : H1 dx = none := by rw [upd_ne ne] at hdx; exact hdx
  refine ⟨rfl, dx, [(T.eF c, v)], upd_same, by rw [upd_ne ne, upd_same], hdx', ?_⟩
  -- the heap in which the exception is let go
  have sm2 : Same H1 (upd (del (upd (upd (upd H1 b (exo b (T.eA c) none)) dx (exd dx [(T.eF c, v)])) b (exo b (T.eA c) (some dx))) b) dx (.xd [(T.eF c, v)])) := fun w o ew => by
    have h1 : w ≠ dx := ne_of_none ew hdx'
    have h2 : w ≠ b := ne_of_none ew nb
    rw [upd_ne h1, del_ne h2, upd_ne h2, upd_ne h1, upd_ne h2]
    exact ew
  exact k σ (some dx) _ (en1.keep sm2) (Same.mono sm2) (.inr ⟨d, v, dx, rfl, rfl, upd_same, Rep.mono (Same.mono sm2) _ _ rd⟩)

/-! ### isinstance -/
/-- what is asked of: a built-in class by its name, an own class, an exception's class -/
inductive Kc where
  | ty (n : String) | ins (c : Nat) | exc (c : Nat)
def Kc.val (T : Tx) : Kc → V
  | .ty n => .ty n
  | .ins c => .ref (T.cA c)
  | .exc c => .ref (T.eA c)
/-- the answers, as the text's facts say them -/
structure Isi where
  ty : String → Kc → Option Bool
  ins : Nat → Kc → Option Bool
  exc : Nat → Kc → Option Bool
def isiQ (F : Isi) : Sl → Kc → Option Bool
  | .fr .non, k => F.ty "NoneType" k
  | .fr (.bl _), k => F.ty "bool" k
  | .fr (.int _), k => F.ty "int" k
  | .fr (.str _), k => F.ty "str" k
  | .fr (.lst _), k => F.ty "list" k
  | .fr (.tup _), k => F.ty "tuple" k
  | .own _, k => F.ty "list" k
  | .bor _, k => F.ty "list" k
  | .fr (.ins c _), k => F.ins c k
  | .fr (.exc c _), k => F.exc c k
  | _, _ => none
end
end TT
end
section
set_option maxRecDepth 100000
set_option maxHeartbeats 4000000
/-! U11: the context of a def's text, short rules, built-ins, isinstance, defs as functions upon data. -/
namespace TT
open PySem PySem.Spec PyProof.Rows L2

/-- the text at large -/
structure Fx where
  P : Program
  w : World
  T : Tx
  base : Heap
/-- an expression of a def (or of a block within) -/
structure Gx (X : Cx) (F : Fx) (M : List Str) (sc : Scope) : Prop where
  prog : X.prog = F.P
  w : X.w = F.w
  K : X.K = F.T.K
  mg : X.mg = F.T.mg
  base : X.base = F.base
  N : X.N = M
  nd : M.Nodup
  sc : X.env.scope = sc
structure Gr (X : Cx) (k : Nat) : Prop where
  calm : X.calm = true
  room : Room k X.A
theorem Gr.mono {X : Cx} {j k : Nat} (g : Gr X k) (h : j ≤ k) : Gr X j := ⟨g.calm, g.room.mono h⟩
/-- a block's scope, within a def's -/
def relS (scope sc : Scope) : Scope := { scope with names := scope.names.map fun (n, k) => if (k == NameKind.free && sc.kind == .function && sc.names.lookup n == some .cell) then (n, NameKind.cell) else (n, k) }
def visB (sc : Scope) (x : Str) : Bool := (match sc.names.lookup x with
  | some .local => true
  | some .cell => true
  | some .free => true
  | _ => false) && (!(x == ("__debug__" : Str)) && !(x == ("__classdict__" : Str)))
def glB (sc : Scope) (x : Str) : Bool := (match sc.names.lookup x with
  | some .globalImplicit => true
  | _ => false) && (!(x == ("__debug__" : Str)) && !(x == ("__name__" : Str)))
section
variable {X : Cx} {F : Fx} {N : List Str} {sc : Scope} {W : WX} {B : Bs} {k : Nat}
theorem Gx.tr (G : Gx X F N sc) {pn : List (Addr × Obj)} {xe : Value → Shared → Prop} : Gx (X.tr pn xe) F N sc := ⟨G.prog, G.w, G.K, G.mg, G.base, G.N, G.nd, G.sc⟩
theorem Gx.su (G : Gx X F N sc) {a : Addr} {pn : List (Addr × Obj)} : Gx (X.suite a pn) F N sc := ⟨G.prog, G.w, G.K, G.mg, G.base, G.N, G.nd, G.sc⟩
theorem Gx.blk (G : Gx X F N sc) {scope : Scope} {s : Shared} {H : Hp} {C : Addr} {cl : List (Str × Addr)} {fp : List Addr} : Gx (X.blk s H scope (compEnvC scope cl C X.env) fp) F N (relS scope sc) := ⟨G.prog, G.w, G.K, G.mg, G.base, G.N, G.nd, by rw [← G.sc]; rfl⟩
theorem Gr.tr (g : Gr X k) {pn : List (Addr × Obj)} {xe : Value → Shared → Prop} : Gr (X.tr pn xe) k := ⟨g.calm, g.room⟩
theorem Gr.blk (g : Gr X k) {scope : Scope} {s : Shared} {H : Hp} {C : Addr} {cl : List (Str × Addr)} {fp : List Addr} : Gr (X.blk s H scope (compEnvC scope cl C X.env) fp) k := ⟨g.calm, g.room⟩
theorem visB_ok (G : Gx X F N sc) {x : Str} (h : visB sc x = true) : Vis X.env.scope x ∧ (x == ("__debug__" : Str)) = false ∧ (x == ("__classdict__" : Str)) = false := by
  unfold visB at h
  obtain ⟨h1, h2⟩ := Bool.and_eq_true_iff.mp h
  obtain ⟨h3, h4⟩ := Bool.and_eq_true_iff.mp h2
  refine ⟨?_, by simpa using h3, by simpa using h4⟩
  rw [G.sc]
  unfold Vis
  split at h1
  · rename_i e; exact .inl e
  · rename_i e; exact .inr (.inl e)
  · rename_i e; exact .inr (.inr e)
  · cases h1
theorem glB_ok (G : Gx X F N sc) {x : Str} (h : glB sc x = true) : Gl X x ∧ (x == ("__debug__" : Str)) = false ∧ x ≠ "__name__" := by
  unfold glB at h
  obtain ⟨h1, h2⟩ := Bool.and_eq_true_iff.mp h
  obtain ⟨h3, h4⟩ := Bool.and_eq_true_iff.mp h2
  refine ⟨?_, by simpa using h3, by simpa using h4⟩
  unfold Gl Env.kindOf
  rw [G.sc]
  split at h1
  · rename_i e; exact e
  · cases h1
end
end TT
end
section
set_option maxRecDepth 100000
set_option maxHeartbeats 4000000
/-! U12: short rules with the context bundled. -/
namespace TT
open PySem PySem.Spec PyProof.Rows L2

/-- f upon one value -/
def sU (f : Sl → Option Sl) (a : Ev Sl) : Ev Sl := fun δ => bnd (a δ) fun x => opt (f x)
/-- a def that is called: what it does to data -/
structure Cal (F : Fx) (x : Str) (k : Nat) (n : Nat) (g : List Sl → R Sl) : Prop where
  ex : ∃ (f : Addr) (fd : FuncData) (ps : List Str), FnOk F.P F.w F.T.K F.T.mg F.base (L2.CX F.P F.w) k f fd ps (spT F.T n g) ∧ F.T.mg x = some (.ref f) ∧ PySem.W.keepIn F.T.K (.ref f) = true ∧ Binds F.T.K fd ps []
theorem Cal.mono {F : Fx} {x : Str} {j k n : Nat} {g : List Sl → R Sl} (c : Cal F x j n g) (h : j ≤ k) : Cal F x k n g := ⟨by
  obtain ⟨f, fd, ps, h1, h2, h3, h4⟩ := c.ex
  exact ⟨f, fd, ps, h1.mono h, h2, h3, h4⟩⟩
section
variable {X : Cx} {F : Fx} {N : List Str} {sc : Scope} {W : WX} {B : Bs} {k : Nat}
theorem gv (G : Gx X F N sc) (i : Nat) {x : Str} {pos : Pos} (hN : N[i]? = some x := by rfl) (hv : visB sc x = true := by rfl) : PE X (.Name x pos) (tVar i) := by
  obtain ⟨h1, h2, h3⟩ := visB_ok G hv
  exact pe_var (by rw [G.N]; exact hN) h1 h2 h3
theorem g_var (G : Gx X F N sc) (i : Nat) {x : Str} {pos : Pos} (hN : N[i]? = some x := by rfl) (hv : visB sc x = true := by rfl) : PE X (.Name x pos) (tE F.T W B (sVar i)) := pe_sVar (gv G i hN hv)
theorem g_int (i : Int) {j : Nat} {pos : Pos} : PE X (.Constant (.int i) j pos) (tE F.T W B (sC (.int i))) := pe_sC pe_int fun _ => rfl
theorem g_str (i : Str) {j : Nat} {pos : Pos} : PE X (.Constant (.str i) j pos) (tE F.T W B (sC (.str i))) := pe_sC pe_str fun _ => rfl
theorem g_bl (i : Bool) {j : Nat} {pos : Pos} : PE X (.Constant (.bool i) j pos) (tE F.T W B (sC (.bl i))) := pe_sC pe_bl fun _ => rfl
theorem g_non {j : Nat} {pos : Pos} : PE X (.Constant .none j pos) (tE F.T W B (sC .non)) := pe_sC pe_non fun _ => rfl
theorem g_gint (G : Gx X F N sc) (i : Int) {x : Str} {pos : Pos} (h : ∃ t, F.T.mg x = some (.int i t)) (hg : glB sc x = true := by rfl) : PE X (.Name x pos) (tE F.T W B (sC (.int i))) := by
  obtain ⟨t, h⟩ := h
  obtain ⟨h1, h2, h3⟩ := glB_ok G hg
  exact pe_sC (pe_glob h1 (by rw [G.mg]; exact h) (show RelV (.int i) _ from ⟨t, rfl⟩) h2) fun _ => rfl
theorem g_gstr (G : Gx X F N sc) (i : Str) {x : Str} {pos : Pos} (h : ∃ t, F.T.mg x = some (.str i t)) (hg : glB sc x = true := by rfl) : PE X (.Name x pos) (tE F.T W B (sC (.str i))) := by
  obtain ⟨t, h⟩ := h
  obtain ⟨h1, h2, h3⟩ := glB_ok G hg
  exact pe_sC (pe_glob h1 (by rw [G.mg]; exact h) (show RelV (.str i) _ from ⟨t, rfl⟩) h2) fun _ => rfl
section ops
variable {ea eb : Expr} {a b : Ev Sl} {pos : Pos}
theorem g_add (G : Gx X F N sc) (ha : PE X ea (tE F.T W B a)) (hb : PE X eb (tE F.T W B b)) : PE X (.BinOp ea .Add eb pos) (tE F.T W B (sB fAdd a b)) := pe_sB (op_fAdd G.K) ha hb
theorem g_sub (G : Gx X F N sc) (ha : PE X ea (tE F.T W B a)) (hb : PE X eb (tE F.T W B b)) : PE X (.BinOp ea .Sub eb pos) (tE F.T W B (sB fSub a b)) := pe_sB op_fSub ha hb
theorem g_mul (G : Gx X F N sc) (ha : PE X ea (tE F.T W B a)) (hb : PE X eb (tE F.T W B b)) : PE X (.BinOp ea .Mult eb pos) (tE F.T W B (sB fMul a b)) := pe_sB op_fMul ha hb
theorem g_div (G : Gx X F N sc) (ha : PE X ea (tE F.T W B a)) (hb : PE X eb (tE F.T W B b)) : PE X (.BinOp ea .FloorDiv eb pos) (tE F.T W B (sB fDiv a b)) := pe_sB op_fDiv ha hb
theorem g_mod (G : Gx X F N sc) (ha : PE X ea (tE F.T W B a)) (hb : PE X eb (tE F.T W B b)) : PE X (.BinOp ea .Mod eb pos) (tE F.T W B (sB fMod a b)) := pe_sB op_fMod ha hb
theorem g_pow (G : Gx X F N sc) (ha : PE X ea (tE F.T W B a)) (hb : PE X eb (tE F.T W B b)) : PE X (.BinOp ea .Pow eb pos) (tE F.T W B (sB fPow a b)) := pe_sB op_fPow ha hb
theorem Gr.un (g : Gr X k) : X.A.units + 64 < cLine := by have := g.room.un; omega
theorem g_eq (G : Gx X F N sc) (g : Gr X k) (ha : PE X ea (tE F.T W B a)) (hb : PE X eb (tE F.T W B b)) : PE X (.Compare ea [.Eq] [eb] pos) (tE F.T W B (sB fEq a b)) := pe_sCmp (op_fEq G.K g.un) ha hb (nomark _)
theorem g_ne (G : Gx X F N sc) (g : Gr X k) (ha : PE X ea (tE F.T W B a)) (hb : PE X eb (tE F.T W B b)) : PE X (.Compare ea [.NotEq] [eb] pos) (tE F.T W B (sB fNe a b)) := pe_sCmp (op_fNe G.K g.un) ha hb (nomark _)
theorem g_lt (G : Gx X F N sc) (ha : PE X ea (tE F.T W B a)) (hb : PE X eb (tE F.T W B b)) : PE X (.Compare ea [.Lt] [eb] pos) (tE F.T W B (sB fLt a b)) := pe_sCmp op_fLt ha hb (nomark _)
theorem g_le (G : Gx X F N sc) (ha : PE X ea (tE F.T W B a)) (hb : PE X eb (tE F.T W B b)) : PE X (.Compare ea [.LtE] [eb] pos) (tE F.T W B (sB fLe a b)) := pe_sCmp op_fLe ha hb (nomark _)
theorem g_gt (G : Gx X F N sc) (ha : PE X ea (tE F.T W B a)) (hb : PE X eb (tE F.T W B b)) : PE X (.Compare ea [.Gt] [eb] pos) (tE F.T W B (sB fGt a b)) := pe_sCmp op_fGt ha hb (nomark _)
theorem g_ge (G : Gx X F N sc) (ha : PE X ea (tE F.T W B a)) (hb : PE X eb (tE F.T W B b)) : PE X (.Compare ea [.GtE] [eb] pos) (tE F.T W B (sB fGe a b)) := pe_sCmp op_fGe ha hb (nomark _)
theorem g_in (G : Gx X F N sc) (ha : PE X ea (tE F.T W B a)) (hb : PE X eb (tE F.T W B b)) (hm : behindInMarks .In eb = false := by rfl) : PE X (.Compare ea [.In] [eb] pos) (tE F.T W B (sB fIn a b)) := pe_sCmp (op_fIn G.K) ha hb hm
theorem g_ni (G : Gx X F N sc) (ha : PE X ea (tE F.T W B a)) (hb : PE X eb (tE F.T W B b)) (hm : behindInMarks .NotIn eb = false := by rfl) : PE X (.Compare ea [.NotIn] [eb] pos) (tE F.T W B (sB fNotIn a b)) := pe_sCmp (op_fNotIn G.K) ha hb hm
theorem g_is (G : Gx X F N sc) (ha : PE X ea (tE F.T W B a)) (hb : PE X eb (tE F.T W B b)) : PE X (.Compare ea [.Is] [eb] pos) (tE F.T W B (sB fIs a b)) := pe_sCmp op_fIs ha hb (nomark _)
theorem g_isn (G : Gx X F N sc) (ha : PE X ea (tE F.T W B a)) (hb : PE X eb (tE F.T W B b)) : PE X (.Compare ea [.IsNot] [eb] pos) (tE F.T W B (sB fIsNot a b)) := pe_sCmp op_fIsNot ha hb (nomark _)
theorem g_idx (G : Gx X F N sc) (ha : PE X ea (tE F.T W B a)) (hb : PE X eb (tE F.T W B b)) (hs : PlainIx eb := by exact fun _ _ => rfl) : PE X (.Subscript ea eb pos) (tE F.T W B (sB fIdx a b)) := pe_sIdx G.K ha hb hs
end ops
/-! tests: a comparison whose value is told is a test -/
theorem pt_cmpV {ea eb : Expr} {op : CmpOp} {f : Sl → Sl → Option Sl} {a b : Ev Sl} {pos : Pos} (ho : OpR X (compareOp op) (rB0 F.T B.h f)) (ha : PE X ea (tE F.T W B a)) (hb : PE X eb (tE F.T W B b)) (hm : behindInMarks op eb = false) :
    PT X (.Compare ea [op] [eb] pos) (tT F.T W B (sTest (sB f a b))) := pt_sCmp ho ha hb hm
section ops
variable {ea eb : Expr} {a b : Ev Sl} {pos : Pos}
theorem t_eq (G : Gx X F N sc) (g : Gr X k) (ha : PE X ea (tE F.T W B a)) (hb : PE X eb (tE F.T W B b)) : PT X (.Compare ea [.Eq] [eb] pos) (tT F.T W B (sTest (sB fEq a b))) := pt_sCmp (op_fEq G.K g.un) ha hb (nomark _)
theorem t_ne (G : Gx X F N sc) (g : Gr X k) (ha : PE X ea (tE F.T W B a)) (hb : PE X eb (tE F.T W B b)) : PT X (.Compare ea [.NotEq] [eb] pos) (tT F.T W B (sTest (sB fNe a b))) := pt_sCmp (op_fNe G.K g.un) ha hb (nomark _)
theorem t_lt (G : Gx X F N sc) (ha : PE X ea (tE F.T W B a)) (hb : PE X eb (tE F.T W B b)) : PT X (.Compare ea [.Lt] [eb] pos) (tT F.T W B (sTest (sB fLt a b))) := pt_sCmp op_fLt ha hb (nomark _)
theorem t_le (G : Gx X F N sc) (ha : PE X ea (tE F.T W B a)) (hb : PE X eb (tE F.T W B b)) : PT X (.Compare ea [.LtE] [eb] pos) (tT F.T W B (sTest (sB fLe a b))) := pt_sCmp op_fLe ha hb (nomark _)
theorem t_gt (G : Gx X F N sc) (ha : PE X ea (tE F.T W B a)) (hb : PE X eb (tE F.T W B b)) : PT X (.Compare ea [.Gt] [eb] pos) (tT F.T W B (sTest (sB fGt a b))) := pt_sCmp op_fGt ha hb (nomark _)
theorem t_ge (G : Gx X F N sc) (ha : PE X ea (tE F.T W B a)) (hb : PE X eb (tE F.T W B b)) : PT X (.Compare ea [.GtE] [eb] pos) (tT F.T W B (sTest (sB fGe a b))) := pt_sCmp op_fGe ha hb (nomark _)
theorem t_in (G : Gx X F N sc) (ha : PE X ea (tE F.T W B a)) (hb : PE X eb (tE F.T W B b)) (hm : behindInMarks .In eb = false := by rfl) : PT X (.Compare ea [.In] [eb] pos) (tT F.T W B (sTest (sB fIn a b))) := pt_sCmp (op_fIn G.K) ha hb hm
theorem t_ni (G : Gx X F N sc) (ha : PE X ea (tE F.T W B a)) (hb : PE X eb (tE F.T W B b)) (hm : behindInMarks .NotIn eb = false := by rfl) : PT X (.Compare ea [.NotIn] [eb] pos) (tT F.T W B (sTest (sB fNotIn a b))) := pt_sCmp (op_fNotIn G.K) ha hb hm
theorem t_is (G : Gx X F N sc) (ha : PE X ea (tE F.T W B a)) (hb : PE X eb (tE F.T W B b)) : PT X (.Compare ea [.Is] [eb] pos) (tT F.T W B (sTest (sB fIs a b))) := pt_sCmp op_fIs ha hb (nomark _)
theorem t_isn (G : Gx X F N sc) (ha : PE X ea (tE F.T W B a)) (hb : PE X eb (tE F.T W B b)) : PT X (.Compare ea [.IsNot] [eb] pos) (tT F.T W B (sTest (sB fIsNot a b))) := pt_sCmp op_fIsNot ha hb (nomark _)
theorem t_tru (G : Gx X F N sc) (ha : PE X ea (tE F.T W B a)) (he : ∀ whole, isTrue ea X.env whole = (do let v ← whole; standAt ea.pos; holding [v] (truthy v)) := by exact fun _ => rfl) : PT X ea (tT F.T W B (sTru a)) := pt_sTru G.K ha he
end ops
/-! ### lists of arguments -/
theorem a_cons {e : Expr} {es : List Expr} {a : Ev Sl} {as : Ev (List Sl)} (ha : PE X e (tE F.T W B a)) (hr : PA X es (tA F.T W B as)) (hs : starEach (e :: es) X.env = (false, eval e X.env) :: starEach es X.env := by rfl) : PA X (e :: es) (tA F.T W B (sCons a as)) := pa_sCons ha hr hs
theorem g_slc (G : Gx X F N sc) {e : Expr} {l h : Option Expr} {a : Ev Sl} {lo hi : EvO} {p2 pos : Pos} (he : PE X e (tE F.T W B a)) (hl : PO X l (tO F.T W B lo)) (hh : PO X h (tO F.T W B hi)) :
    PE X (.Subscript e (.Slice l h none p2) pos) (tE F.T W B (sSlc a lo hi)) := pe_sSlc G.K he hl hh
/-- a built-in function by name -/
theorem g_bi (G : Gx X F N sc) {id : String} {x : Str} {p pos : Pos} {e : Expr} {es : List Expr} {f : List Sl → Option Sl} {as : Ev (List Sl)} (hc : CallR X (.builtin id) (rC F.T B.h f)) (hm : F.T.mg x = none) (hv : bootBuiltins x = some (.builtin id)) (ha : PA X (e :: es) (tA F.T W B as)) (hg : glB sc x = true := by rfl)
    (he : starEach (e :: es) X.env = (false, eval e X.env) :: starEach es X.env := by rfl) (hpl : (backTo pos (starEach es X.env)).any (·.1) = false := by rfl) : PE X (.Call (.Name x p) (e :: es) [] pos) (tE F.T W B (sBi f as)) := by
  obtain ⟨h1, h2, h3⟩ := glB_ok G hg
  exact pe_sBi hc h1 (by rw [G.mg]; exact hm) hv ha h3 h2 he hpl
theorem g_ty (G : Gx X F N sc) {id : String} {x : Str} {p pos : Pos} {e : Expr} {es : List Expr} {f : List Sl → Option Sl} {as : Ev (List Sl)} (hc : CallR X (.type id) (rC F.T B.h f)) (hm : F.T.mg x = none) (hv : bootBuiltins x = some (.type id)) (ha : PA X (e :: es) (tA F.T W B as)) (hg : glB sc x = true := by rfl)
    (he : starEach (e :: es) X.env = (false, eval e X.env) :: starEach es X.env := by rfl) (hpl : (backTo pos (starEach es X.env)).any (·.1) = false := by rfl) : PE X (.Call (.Name x p) (e :: es) [] pos) (tE F.T W B (sBi f as)) := by
  obtain ⟨h1, h2, h3⟩ := glB_ok G hg
  exact pe_sTy hc h1 (by rw [G.mg]; exact hm) hv ha h3 h2 he hpl
theorem g_call (G : Gx X F N sc) (r : Gr X k) {x : Str} {g : List Sl → R Sl} {bs : List Md} {as : Ev (List Sl)} {p pos : Pos} {e : Expr} {es : List Expr} (C : Cal F x k bs.length g) (tk : Takes X W) (ha : PA X (e :: es) (tA F.T W B as)) (hg : glB sc x = true := by rfl)
    (he : starEach (e :: es) X.env = (false, eval e X.env) :: starEach es X.env := by rfl) (hpl : (backTo pos (starEach es X.env)).any (·.1) = false := by rfl) : PE X (.Call (.Name x p) (e :: es) [] pos) (tE F.T W B (sCall g bs as)) := by
  obtain ⟨f, fd, ps, F1, hm, hk, hb⟩ := C.ex
  obtain ⟨h1, h2, h3⟩ := glB_ok G hg
  rw [← G.prog, ← G.w, ← G.K, ← G.mg, ← G.base] at F1
  exact pe_sCall F1 r.room h1 (by rw [G.mg]; exact hm) (by rw [G.K]; exact hk) (by rw [G.K]; exact hb) tk ha h2 he hpl
theorem g_call0 (G : Gx X F N sc) (r : Gr X k) {x : Str} {g : List Sl → R Sl} {p pos : Pos} (C : Cal F x k 0 g) (tk : Takes X W) (hg : glB sc x = true := by rfl) : PE X (.Call (.Name x p) [] [] pos) (tE F.T W B (sCall g [] sNil)) := by
  obtain ⟨f, fd, ps, F1, hm, hk, hb⟩ := C.ex
  obtain ⟨h1, h2, h3⟩ := glB_ok G hg
  rw [← G.prog, ← G.w, ← G.K, ← G.mg, ← G.base] at F1
  exact pe_sCall0 F1 r.room h1 (by rw [G.mg]; exact hm) (by rw [G.K]; exact hk) (by rw [G.K]; exact hb) tk h2
/-- a method of a built-in type -/
theorem g_sm {ty id : String} {name : Str} {o e : Expr} {es : List Expr} {f : Sl → List Sl → Option Sl} {ev : Ev Sl} {as : Ev (List Sl)} {apos cpos : Pos} (pa : PlainAttrs ty) (slot : Slot ty name id) (hty : typeOf (.builtin id) = pure (.type "method_descriptor")) (hm : MtR X id (rM F.T B.h f))
    (ho : PE X o (tE F.T W B ev)) (ha : PA X (e :: es) (tA F.T W B as)) (hbase : attributeBase o name X.env (eval o X.env) = eval o X.env := by rfl)
    (hfew : ((backTo cpos (starEach (e :: es) X.env)).all (fun x => !x.1) && (backToKw cpos (keywordEach [] X.env)).all (fun x => x.1.isSome)
      && decide ((e :: es).length + ([] : List Keyword).length + (if ([] : List Keyword).isEmpty then 0 else 1) < 30)) = true := by rfl)
    (hline : (apos.endLine == cpos.line) = true := by rfl) (hs : starEach (e :: es) X.env = (false, eval e X.env) :: starEach es X.env := by rfl) (hplain : (backTo cpos (starEach es X.env)).any (·.1) = false := by rfl) :
    PE X (.Call (.Attribute o name apos) (e :: es) [] cpos) (tE F.T W B (sSm ty f ev as)) := pe_sSm pa slot hty hm ho ha hbase hfew hline hs hplain
theorem g_sm0 {ty id : String} {name : Str} {o : Expr} {f : Sl → List Sl → Option Sl} {ev : Ev Sl} {apos cpos : Pos} (pa : PlainAttrs ty) (slot : Slot ty name id) (hty : typeOf (.builtin id) = pure (.type "method_descriptor")) (hm : MtR X id (rM F.T B.h f))
    (ho : PE X o (tE F.T W B ev)) (hbase : attributeBase o name X.env (eval o X.env) = eval o X.env := by rfl) (hline : (apos.endLine == cpos.line) = true := by rfl) : PE X (.Call (.Attribute o name apos) [] [] cpos) (tE F.T W B (sSm ty f ev sNil)) := pe_sSm0 pa slot hty hm ho hbase hline
/-! ### a comparison with a table of the top -/
/-- a table of texts: what stands by each -/
def TabK (K : PySem.W.Frag) (w : World) (d : Addr) (kvs : List (Str × D)) : Prop := (∃ es n, KDict K w d es n) ∧ ∀ z : Str, match kvs.find? fun q => q.1 == z with
  | some q => ∃ u v, PySem.W.nsIn K d z = some (some u) ∧ RelV v u ∧ flat q.2 = true ∧ ∀ T H, Rep T H q.2 v
  | none => PySem.W.nsIn K d z = some none
structure TabF (F : Fx) (x : Str) (kvs : List (Str × D)) : Prop where
  ex : ∃ d, F.T.mg x = some (.ref d) ∧ TabK F.T.K F.w d kvs
def fTabIn (kvs : List (Str × D)) : Sl → Option Sl
  | .fr (.str z) => some (.fr (.bl (kvs.find? fun q => q.1 == z).isSome))
  | _ => none
def fTabNi (kvs : List (Str × D)) : Sl → Option Sl
  | .fr (.str z) => some (.fr (.bl !(kvs.find? fun q => q.1 == z).isSome))
  | _ => none
def fTabAt (kvs : List (Str × D)) : Sl → Option Sl
  | .fr (.str z) => (kvs.find? fun q => q.1 == z).map fun q => .fr q.2
  | _ => none
theorem sU_read {f : Sl → Option Sl} {a : Ev Sl} {σ : St} {H : Hp} {Q : VK} {T : Tx} (h : tE T W B (sU f a) σ H Q) : tE T W B a σ H fun v H1 => ∃ x z, SlW T B.h H1 x v ∧ f x = some z ∧ ∀ v H', Same H1 H' → SlV T B.h H1 H' z v → Q v H' := by
  obtain ⟨δ, en, q⟩ := h
  refine ⟨δ, en, (Sat.seq (rel := SlV T B.h) q).imp fun v H1 s1 ⟨x, e, r, sm, k⟩ => ?_⟩
  obtain ⟨z, e4, k4⟩ := sat_opt k
  exact ⟨x, z, r.w, e4, fun w H' s' q => k4 w H' (Same.trans sm s') ((okV T B.h).up _ _ _ _ _ sm q)⟩
section tab
variable {ea : Expr} {a : Ev Sl} {x : Str} {p pos : Pos} {kvs : List (Str × D)}
theorem asStr {T : Tx} {B H : Hp} {v : V} {z : Str} (h : SlW T B H (.fr (.str z)) v) : v = .str z := h
/-- one side told: an operation upon one value -/
def rU (T : Tx) (B : Hp) (d : Addr) (f : Sl → Option Sl) : R2 := fun x y H Q => y = .ref d ∧ ∃ a z, SlW T B H a x ∧ f a = some z ∧ ∀ v H', Same H H' → SlV T B H H' z v → Q v H'
theorem g_uop {op : CmpOp} {f : Sl → Option Sl} {eb : Expr} {d : Addr} (ho : OpR X (compareOp op) (rU F.T B.h d f)) (ha : PE X ea (tE F.T W B a)) (hb : PE X eb (tC (.ref d))) (hm : behindInMarks op eb = false) : PE X (.Compare ea [op] [eb] pos) (tE F.T W B (sU f a)) :=
  PE.of (pe_cmpR ho ha hb hm) fun σ H Q h => by
    obtain ⟨δ, en, q⟩ := sU_read h
    exact ⟨δ, en, q.imp fun v H1 s1 k => ⟨rfl, k⟩⟩
theorem t_uop {op : CmpOp} {f : Sl → Option Sl} {eb : Expr} {d : Addr} (ho : OpR X (compareOp op) (rU F.T B.h d f)) (ha : PE X ea (tE F.T W B a)) (hb : PE X eb (tC (.ref d))) (hm : behindInMarks op eb = false) : PT X (.Compare ea [op] [eb] pos) (tT F.T W B (sTest (sU f a))) := by
  refine PT.of (pt_cmpR ho ha hb hm) fun σ H Q h => ?_
  have h2 := seq1 (T := F.T) (W := W) (B := B) (rel1 := SlV F.T B.h) (rel3 := RlEq) (a := sU f a) (k := fun x => opt (asB x)) (Q := Q) h
  have h3 : tE F.T W B (sU f a) σ H fun v H1 => ∃ k, v = .bl k ∧ Q k H1 := by
    obtain ⟨δ, en, q⟩ := h2
    refine ⟨δ, en, q.imp fun v H1 s1 ⟨u, r, s, _, k⟩ => ?_⟩
    cases e : asB u with
    | none => rw [e] at k; exact k.elim
    | some c => rw [e] at k; exact ⟨c, r.bl e, k c H1 s rfl⟩
  obtain ⟨δ, en, q⟩ := sU_read h3
  exact ⟨δ, en, q.imp fun v H1 s1 k => ⟨rfl, k⟩⟩
theorem op_tIn {d : Addr} (hK : X.K = F.T.K) (hw : X.w = F.w) (t : TabK F.T.K F.w d kvs) : OpR X (compareOp .In) (rU F.T B.h d (fTabIn kvs)) := by
  obtain ⟨⟨es, n, K⟩, ht⟩ := t
  rw [← hK, ← hw] at K
  rintro pins s σ H x y v u Q I rx ry ⟨rfl, a, z, ra, e, k⟩
  unfold fTabIn at e
  split at e
  · rename_i st
    cases e; cases ra
    have hz := ht st
    refine op_in_kd K pins s σ H _ _ v u Q I rx ry ?_
    cases ef : kvs.find? fun q => q.1 == st with
    | none =>
      rw [ef] at hz k
      exact ⟨st, none, rfl, rfl, by rw [hK]; exact hz, k _ H Same.refl rfl⟩
    | some q =>
      rw [ef] at hz k
      obtain ⟨u, v, e1, e2, _⟩ := hz
      exact ⟨st, some u, rfl, rfl, by rw [hK]; exact e1, k _ H Same.refl rfl⟩
  · cases e
theorem op_tNi {d : Addr} (hK : X.K = F.T.K) (hw : X.w = F.w) (t : TabK F.T.K F.w d kvs) : OpR X (compareOp .NotIn) (rU F.T B.h d (fTabNi kvs)) := by
  obtain ⟨⟨es, n, K⟩, ht⟩ := t
  rw [← hK, ← hw] at K
  rintro pins s σ H x y v u Q I rx ry ⟨rfl, a, z, ra, e, k⟩
  unfold fTabNi at e
  split at e
  · rename_i st
    cases e; cases ra
    have hz := ht st
    refine op_notIn_kd K pins s σ H _ _ v u Q I rx ry ?_
    cases ef : kvs.find? fun q => q.1 == st with
    | none =>
      rw [ef] at hz k
      exact ⟨st, none, rfl, rfl, by rw [hK]; exact hz, k _ H Same.refl rfl⟩
    | some q =>
      rw [ef] at hz k
      obtain ⟨u, v, e1, e2, _⟩ := hz
      exact ⟨st, some u, rfl, rfl, by rw [hK]; exact e1, k _ H Same.refl rfl⟩
  · cases e
theorem tab_name {d : Addr} (G : Gx X F N sc) (hm : F.T.mg x = some (.ref d)) (hg : glB sc x = true) : PE X (.Name x p) (tC (.ref d)) := by
  obtain ⟨h1, h2, h3⟩ := glB_ok G hg
  have hr : RelV (.ref d) (.ref d) := rfl
  exact pe_glob h1 (by rw [G.mg]; exact hm) hr h2
theorem g_tIn (G : Gx X F N sc) (t : TabF F x kvs) (ha : PE X ea (tE F.T W B a)) (hg : glB sc x = true := by rfl) : PE X (.Compare ea [.In] [.Name x p] pos) (tE F.T W B (sU (fTabIn kvs) a)) := by
  obtain ⟨d, hm, t⟩ := t.ex
  exact g_uop (op_tIn G.K G.w t) ha (tab_name G hm hg) rfl
theorem g_tNi (G : Gx X F N sc) (t : TabF F x kvs) (ha : PE X ea (tE F.T W B a)) (hg : glB sc x = true := by rfl) : PE X (.Compare ea [.NotIn] [.Name x p] pos) (tE F.T W B (sU (fTabNi kvs) a)) := by
  obtain ⟨d, hm, t⟩ := t.ex
  exact g_uop (op_tNi G.K G.w t) ha (tab_name G hm hg) rfl
theorem t_tIn (G : Gx X F N sc) (t : TabF F x kvs) (ha : PE X ea (tE F.T W B a)) (hg : glB sc x = true := by rfl) : PT X (.Compare ea [.In] [.Name x p] pos) (tT F.T W B (sTest (sU (fTabIn kvs) a))) := by
  obtain ⟨d, hm, t⟩ := t.ex
  exact t_uop (op_tIn G.K G.w t) ha (tab_name G hm hg) rfl
theorem t_tNi (G : Gx X F N sc) (t : TabF F x kvs) (ha : PE X ea (tE F.T W B a)) (hg : glB sc x = true := by rfl) : PT X (.Compare ea [.NotIn] [.Name x p] pos) (tT F.T W B (sTest (sU (fTabNi kvs) a))) := by
  obtain ⟨d, hm, t⟩ := t.ex
  exact t_uop (op_tNi G.K G.w t) ha (tab_name G hm hg) rfl
theorem g_tAt (G : Gx X F N sc) (t : TabF F x kvs) (ha : PE X ea (tE F.T W B a)) (hg : glB sc x = true := by rfl) (hs : PlainIx ea := by exact fun _ _ => rfl) : PE X (.Subscript (.Name x p) ea pos) (tE F.T W B (sU (fTabAt kvs) a)) := by
  obtain ⟨d, hm, ⟨es, n, K⟩, ht⟩ := t.ex
  obtain ⟨h1, h2, h3⟩ := glB_ok G hg
  rw [← G.K, ← G.w] at K
  have hr : RelV (.ref d) (.ref d) := rfl
  refine PE.of (pe_ix ix_kdict (pe_glob h1 (by rw [G.mg]; exact hm) hr h2) ha hs) fun σ H Q h => ?_
  obtain ⟨δ, en, q⟩ := sU_read h
  refine (show tE F.T W B a σ H _ from ⟨δ, en, q.imp fun v H1 s1 ⟨y, z, ry, e, k⟩ => ?_⟩)
  unfold fTabAt at e
  split at e
  · rename_i st
    obtain ⟨q, e5, rfl⟩ := Option.map_eq_some_iff.mp e
    cases ry
    have hz := ht st
    rw [e5] at hz
    obtain ⟨u, v, e1, e2, e3, e4⟩ := hz
    exact ⟨d, st, v, rfl, rfl, ⟨es, n, u, K.at_, K.lit, by rw [G.K]; exact e1, e2⟩, k _ H1 Same.refl (e4 _ _)⟩
  · cases e
end tab
end
end TT
end
section
set_option maxRecDepth 100000
set_option maxHeartbeats 4000000
/-! U13: built-ins, methods, isinstance. -/
namespace TT
open PySem PySem.Spec PyProof.Rows L2

/-- how many items -/
def lenM : M → Option Nat
  | .lst ms => some ms.length
  | .tup ms => some ms.length
  | _ => none
def lenS : Sl → Option Nat
  | .fr (.lst xs) => some xs.length
  | .fr (.tup xs) => some xs.length
  | .own xs => some xs.length
  | .bor xs => some xs.length
  | .deep m => lenM m
  | .lent m => lenM m
  | .view m => lenM m
  | _ => none
theorem lenM_w {T : Tx} {H : Hp} {m : M} {n : Nat} {v : V} (K : PySem.W.Frag) (h : RepV T H m v) (e : lenM m = some n) : ∃ p xs, v = .ref p ∧ (SqL K H p xs ∨ SqT K H p xs) ∧ xs.length = n := by
  cases m with
  | lst ms => cases e; obtain ⟨a, xs, e1, s, r⟩ := h; exact ⟨a, xs, e1, .inl (.inl s), r.length.symm⟩
  | tup ms => cases e; obtain ⟨a, xs, e1, s, r⟩ := h; exact ⟨a, xs, e1, .inr s.sq, r.length.symm⟩
  | _ => cases e
theorem lenS_w {T : Tx} {B H : Hp} {a : Sl} {n : Nat} {v : V} (K : PySem.W.Frag) (h : SlW T B H a v) (e : lenS a = some n) : ∃ p xs, v = .ref p ∧ (SqL K H p xs ∨ SqT K H p xs) ∧ xs.length = n := by
  cases a with
  | fr d => cases d with
    | lst ds => cases e; obtain ⟨p, xs, e1, s, r⟩ := h; exact ⟨p, xs, e1, .inl (.inl s.rd), r.length.symm⟩
    | tup ds => cases e; obtain ⟨p, xs, e1, s, r⟩ := h; exact ⟨p, xs, e1, .inr s.sq, r.length.symm⟩
    | _ => cases e
  | own ds => cases e; obtain ⟨p, xs, e1, s, r⟩ := h; exact ⟨p, xs, e1, .inl (.inl (.inl s)), r.length.symm⟩
  | bor ds => cases e; obtain ⟨p, xs, e1, s, r⟩ := h; exact ⟨p, xs, e1, .inl (.inl s), r.length.symm⟩
  | deep m => obtain ⟨F, h⟩ := h; exact lenM_w K (RepM.v _ _ _ h) e
  | lent m => exact lenM_w K (RepV.same h.1 h.2) e
  | view m => exact lenM_w K h e
  | _ => cases e
def bLen : List Sl → Option Sl
  | [.fr (.str s)] => if s.length ≤ sizeLine then some (.fr (.int (s.length : Nat))) else none
  | [a] => (lenS a).map fun n => .fr (.int (n : Nat))
  | _ => none
def bAbs : List Sl → Option Sl
  | [.fr (.int i)] => some (.fr (.int (if i < 0 then -i else i)))
  | _ => none
def bList : List Sl → Option Sl
  | [a] => (asSq a).map fun ds => .own ds
  | _ => none
def bTup : List Sl → Option Sl
  | [.fr (.tup ds)] => some (.fr (.tup ds))
  | [a] => (asL a).map fun ds => .fr (.tup ds)
  | _ => none
def bInt : List Sl → Option Sl
  | [.fr (.int i)] => some (.fr (.int i))
  | [.fr (.bl k)] => some (.fr (.int (if k then 1 else 0)))
  | _ => none
def bStr : List Sl → Option Sl
  | [.fr (.int i)] => if i.natAbs.log2 < 1920 then some (.fr (.str (toString i : String))) else none
  | _ => none
section
variable {X : Cx} {T : Tx} {B : Bs}
theorem one_v {H : Hp} {a : Sl} {xs : List V} (h : Paired (SlW T B.h H) [a] xs) : ∃ x, xs = [x] ∧ SlW T B.h H a x := by
  cases h with
  | cons r rr => cases rr; exact ⟨_, rfl, r⟩
theorem cr_bLen (hK : X.K = T.K) : CallR X (.builtin "len") (rC T B.h bLen) := by
  rintro pins s σ H xs us Q I r ⟨as, z, rs, e, k⟩
  unfold bLen at e
  split at e
  · split at e
    · rename_i st hz
      cases e
      obtain ⟨x, rfl, rx⟩ := one_v rs
      cases rx
      exact call_len_str pins s σ H _ us Q I r ⟨st, rfl, hz, k _ H Same.refl rfl⟩
    · cases e
  · rename_i a _
    obtain ⟨ds, e1, rfl⟩ := Option.map_eq_some_iff.mp e
    obtain ⟨x, rfl, rx⟩ := one_v rs
    obtain ⟨p, ys, rfl, sq, rr⟩ := lenS_w X.K rx e1
    refine call_len_seq pins s σ H _ us Q I r ⟨p, ys, rfl, sq, k _ H Same.refl ?_⟩
    show V.int _ = V.int _
    rw [rr]
  · cases e
theorem cr_bAbs : CallR X (.builtin "abs") (rC T B.h bAbs) := by
  rintro pins s σ H xs us Q I r ⟨as, z, rs, e, k⟩
  unfold bAbs at e
  split at e
  · cases e
    obtain ⟨x, rfl, rx⟩ := one_v rs
    cases rx
    exact call_abs pins s σ H _ us Q I r ⟨_, rfl, k _ H Same.refl rfl⟩
  · cases e
theorem cr_bList (hK : X.K = T.K) : CallR X (.type "list") (rC T B.h bList) := by
  rintro pins s σ H xs us Q I r ⟨as, z, rs, e, k⟩
  unfold bList at e
  split at e
  · obtain ⟨ds, e1, rfl⟩ := Option.map_eq_some_iff.mp e
    obtain ⟨x, rfl, rx⟩ := one_v rs
    obtain ⟨p, ys, rfl, sq, rr⟩ := w_sq rx e1
    exact call_list_of pins s σ H _ us Q I r ⟨p, ys, rfl, by rw [hK]; exact sq, fun l hl => k _ _ (Same.upd hl) (v_own hl rr)⟩
  · cases e
theorem cr_bTup (hK : X.K = T.K) : CallR X (.type "tuple") (rC T B.h bTup) := by
  rintro pins s σ H xs us Q I r ⟨as, z, rs, e, k⟩
  unfold bTup at e
  split at e
  · cases e
    obtain ⟨x, rfl, rx⟩ := one_v rs
    obtain ⟨p, ys, rfl, sq, rr⟩ := w_tup rx rfl
    exact call_tuple_of pins s σ H _ us Q I r ⟨p, ys, rfl, .inr ⟨sq.sq, k _ H Same.refl ⟨p, ys, rfl, sq, rr⟩⟩⟩
  · obtain ⟨ds, e1, rfl⟩ := Option.map_eq_some_iff.mp e
    obtain ⟨x, rfl, rx⟩ := one_v rs
    obtain ⟨p, ys, rfl, sq, rr⟩ := w_lst rx e1
    exact call_tuple_of pins s σ H _ us Q I r ⟨p, ys, rfl, .inl ⟨.inl sq, fun l hl => k _ _ (Same.upd hl) (v_tup hl rr)⟩⟩
  · cases e
theorem cr_bInt : CallR X (.type "int") (rC T B.h bInt) := by
  rintro pins s σ H xs us Q I r ⟨as, z, rs, e, k⟩
  unfold bInt at e
  split at e
  · cases e
    obtain ⟨x, rfl, rx⟩ := one_v rs
    cases rx
    exact call_int1 pins s σ H _ us Q I r (.inl ⟨_, rfl, k _ H Same.refl rfl⟩)
  · cases e
    obtain ⟨x, rfl, rx⟩ := one_v rs
    cases rx
    exact call_int1 pins s σ H _ us Q I r (.inr ⟨_, rfl, k _ H Same.refl rfl⟩)
  · cases e
theorem cr_bStr : CallR X (.type "str") (rC T B.h bStr) := by
  rintro pins s σ H xs us Q I r ⟨as, z, rs, e, k⟩
  unfold bStr at e
  split at e
  · split at e
    · rename_i hz
      cases e
      obtain ⟨x, rfl, rx⟩ := one_v rs
      cases rx
      exact call_str_int pins s σ H _ us Q I r ⟨_, rfl, hz, k _ H Same.refl rfl⟩
    · cases e
  · cases e
end

/-! ### methods -/
def strsOf : List D → Option (List Str)
  | [] => some []
  | .str s :: ds => (strsOf ds).map (s :: ·)
  | _ => none
theorem strsOf_reps {T : Tx} {H : Hp} : ∀ {ds : List D} {vs : List V} {ss : List Str}, Reps T H ds vs → strsOf ds = some ss → vs = ss.map V.str
  | [], _, _, h, e => by cases e; cases h; rfl
  | d :: ds, _, ss, ⟨x, xs, e1, h, r⟩, e => by
    subst e1
    cases d with
    | str s =>
      obtain ⟨ss', e2, rfl⟩ := Option.map_eq_some_iff.mp (show (strsOf ds).map (s :: ·) = some ss from e)
      cases h
      rw [strsOf_reps r e2]; rfl
    | _ => cases e
def mJoin : Sl → List Sl → Option Sl
  | .fr (.str a), [b] => match asSq b with
    | some ds => (match strsOf ds with
      | some ys => if (ys.map (·.length)).sum + ys.length * a.length ≤ 16777216 then some (.fr (.str (Txt.join a ys))) else none
      | none => none)
    | none => none
  | _, _ => none
def findFlat (d : D) : List D → Nat → Option Nat
  | [], _ => none
  | y :: ys, i => if eqF y d = true then some i else findFlat d ys (i + 1)
def mIndex : Sl → List Sl → Option Sl
  | a, [.fr d] => match asL a with
    | some ds => if flat d && ds.all flat then (findFlat d ds 0).map fun i => .fr (.int (i : Nat)) else none
    | none => none
  | _, _ => none
theorem findFlat_ok {d : D} : ∀ {ds : List D} {i j : Nat}, findFlat d ds i = some j → i ≤ j ∧ (∃ z, ds[j - i]? = some z ∧ eqF z d = true) ∧ ∀ m z, m < j - i → ds[m]? = some z → eqF z d = false
  | [], _, _, h => by cases h
  | y :: ys, i, j, h => by
    unfold findFlat at h
    split at h
    · rename_i e
      cases h
      exact ⟨Nat.le_refl _, ⟨y, by simp, e⟩, fun m z hm => by omega⟩
    · rename_i e
      obtain ⟨h1, ⟨z, h2, h3⟩, h4⟩ := findFlat_ok h
      refine ⟨by omega, ⟨z, ?_, h3⟩, fun m z hm hz => ?_⟩
      · have : j - i = (j - (i + 1)) + 1 := by omega
        rw [this]; simpa using h2
      · cases m with
        | zero => simp at hz; subst hz; simpa using e
        | succ m => exact h4 m z (by omega) (by simpa using hz)
section
variable {X : Cx} {T : Tx} {B : Bs}
theorem mt_mJoin (hK : X.K = T.K) : MtR X "str.join" (rM T B.h mJoin) := by
  rintro pins s σ H x xs v us Q I rx rxs ⟨a, as, z, ra, ras, e, k⟩
  unfold mJoin at e
  split at e
  · split at e
    · rename_i ds e1
      split at e
      · rename_i ys e2
        split at e
        · rename_i hz
          cases e
          obtain ⟨y, rfl, ry⟩ := one_v ras
          obtain ⟨p, vs, rfl, sq, rr⟩ := w_sq ry e1
          cases ra
          have := strsOf_reps rr e2
          subst this
          exact mt_join pins s σ H _ _ v us Q I rx rxs ⟨_, p, ys, rfl, rfl, by rw [hK]; exact sq, hz, k _ H Same.refl rfl⟩
        · cases e
      · cases e
    · cases e
  · cases e
theorem mt_mIndex (hK : X.K = T.K) : MtR X "list.index" (rM T B.h mIndex) := by
  rintro pins s σ H x xs v us Q I rx rxs ⟨a, as, z, ra, ras, e, k⟩
  unfold mIndex at e
  split at e
  · split at e
    · rename_i d _ ds e1
      split at e
      · rename_i hf
        obtain ⟨j, e2, rfl⟩ := Option.map_eq_some_iff.mp e
        obtain ⟨h1, h2⟩ := Bool.and_eq_true_iff.mp hf
        obtain ⟨y, rfl, ry⟩ := one_v ras
        obtain ⟨p, vs, rfl, sq, rr⟩ := w_lst ra e1
        obtain ⟨_, ⟨zd, q1, q2⟩, q3⟩ := findFlat_ok e2
        obtain ⟨zv, q4, q5⟩ := rr.get q1
        have fz : flat zd = true := List.all_eq_true.mp h2 zd (List.mem_of_getElem? q1)
        refine mt_index pins s σ H _ _ v us Q I rx rxs ⟨p, vs, y, j, zv, rfl, rfl, .inl sq, flat_v ry h1, flat_all rr h2, by simpa using q4, by rw [eqF_v q5 ry fz h1]; exact q2, fun m z' hm hz' => ?_, k _ H Same.refl rfl⟩
        have hl : m < ds.length := by rw [rr.length]; exact (List.getElem?_eq_some_iff.mp hz').1
        have q6 : ds[m]? = some ds[m] := by simp [hl]
        obtain ⟨zv', q7, q8⟩ := rr.get q6
        rw [hz'] at q7; cases q7
        rw [eqF_v q8 ry (List.all_eq_true.mp h2 _ (List.mem_of_getElem? q6)) h1]
        exact q3 m _ (by omega) q6
      · cases e
    · cases e
  · cases e
end

/-! ### isinstance -/
inductive Kd where
  | str | int | bool | list | tuple | vErr | exc (c : Nat)
def Kd.nm : Kd → String
  | .str => "str" | .int => "int" | .bool => "bool" | .list => "list" | .tuple => "tuple" | .vErr => "ValueError" | .exc _ => ""
def Kd.val (T : Tx) : Kd → V
  | .exc c => .ref (T.eA c)
  | k => .ty k.nm
def isQ (sub : Nat → Nat → Bool) : Sl → Kd → Option Bool
  | .fr (.exc c _), .exc e => some (sub c e)
  | .fr (.exc _ _), .vErr => some true
  | .no, _ => none
  | .fr (.ins _ _), _ => none
  | .fr (.exc _ _), _ => none
  | .fr (.str _), .str => some true
  | .fr (.int _), .int => some true
  | .fr (.bl _), .int => some true
  | .fr (.bl _), .bool => some true
  | .fr (.tup _), .tuple => some true
  | .fr (.lst _), .list => some true
  | .own _, .list => some true
  | .bor _, .list => some true
  | .view (.lst _), .list => some true
  | .lent (.lst _), .list => some true
  | .view (.tup _), .tuple => some true
  | .lent (.tup _), .tuple => some true
  | .view (.fz _), _ => none
  | .lent (.fz _), _ => none
  | .view (.ins _ _), _ => none
  | .lent (.ins _ _), _ => none
  | .deep _, _ => none
  | .mp _, _ => none
  | .dt _ _, _ => none
  | .dk _ _, _ => none
  | _, .exc _ => none
  | _, .vErr => none
  | _, _ => some false
/-- what the exceptions' classes are -/
structure ExF (T : Tx) (sub : Nat → Nat → Bool) : Prop where
  cl : ∀ c, (PySem.W.clsIn T.K (T.eA c)).isSome = true
  hga : ∀ c, PySem.W.findIn T.K (.ref (T.eA c)) "__getattribute__" = some (some (.builtin "BaseException.__getattribute__"))
  hgt : ∀ c, PySem.W.findIn T.K (.ref (T.eA c)) "__getattr__" = some none
  hs : ∀ c, PySem.W.subIn T.K (.ref (T.eA c)) (.type "BaseException") = some true
  ha : ∀ c, PySem.W.findIn T.K (.ref (T.eA c)) "__class__" = some (some (.builtin "object.__class__"))
  hm : ∀ c, PySem.W.mroIn T.K (T.eA c) (.type "object") = some true
  hn : PySem.W.specialIn T.K (.builtin "object.__class__") "__get__" = some (some (.builtin "getset_descriptor.__get__"))
  ht : PySem.W.takesIn T.K (.builtin "object.__class__") = some true
  kit : ∀ c e, PySem.W.kitOne T.K (.ref (T.eA c)) (.ref (T.eA e)) = some (sub c e)
  kitV : ∀ c, PySem.W.kitOne T.K (.ref (T.eA c)) (.type "ValueError") = some true
  exm : ∀ c e, PySem.W.exmOne T.K (.ref (T.eA c)) (.ref (T.eA e)) = some (sub c e)
def rIsQ (T : Tx) (B : Bs) (sub : Nat → Nat → Bool) : List V → Hp → VK → Prop := fun xs H Q => ∃ a v k b, xs = [v, Kd.val T k] ∧ SlW T B.h H a v ∧ isQ sub a k = some b ∧ Q (.bl b) H
/-- of which built-in class data is -/
def tyN : Sl → Option String
  | .fr .non => some "NoneType"
  | .fr (.bl _) => some "bool"
  | .fr (.int _) => some "int"
  | .fr (.str _) => some "str"
  | .fr (.lst _) => some "list"
  | .fr (.tup _) => some "tuple"
  | .own _ => some "list"
  | .bor _ => some "list"
  | .view (.lst _) => some "list"
  | .lent (.lst _) => some "list"
  | .view (.tup _) => some "tuple"
  | .lent (.tup _) => some "tuple"
  | _ => none
section
variable {X : Cx} {T : Tx} {B : Bs} {sub : Nat → Nat → Bool}
theorem tyx_of (hK : X.K = T.K) {H : Hp} {a : Sl} {v : V} {n : String} (h : SlW T B.h H a v) (e : tyN a = some n) : TyX X.K H v (.type n) := by
  have rdl : ∀ {p : Addr} {xs : List V}, Rd H p (.lst xs) → TyX X.K H (.ref p) (.type "list") := fun h => by
    rcases h with h | ⟨o, h⟩
    · exact .base (.lst h)
    · exact .base (.frz h)
  cases a with
  | no => cases e
  | own ds => cases e; obtain ⟨p, xs, rfl, h, _⟩ := h; exact .base (.lst h)
  | bor ds => cases e; obtain ⟨p, xs, rfl, h, _⟩ := h; exact rdl h
  | fr d => cases d with
    | non => cases e; cases h; exact .base .non
    | bl b => cases e; cases h; exact .base (.bl b)
    | int b => cases e; cases h; exact .base (.int b)
    | str b => cases e; cases h; exact .base (.str b)
    | lst b => cases e; obtain ⟨p, xs, rfl, s, _⟩ := h; exact rdl s.rd
    | tup b =>
      cases e
      obtain ⟨p, xs, rfl, s, _⟩ := h
      exact .base (.tup s)
    | ins c f => cases e
    | exc c f => cases e
  | view m => cases m with
    | lst ms => cases e; obtain ⟨p, xs, rfl, s, _⟩ := h; exact rdl s
    | tup ms => cases e; obtain ⟨p, xs, rfl, s, _⟩ := h; exact .base (.tup s)
    | _ => cases e
  | lent m =>
    obtain ⟨sm, h⟩ := h
    cases m with
    | lst ms => cases e; obtain ⟨p, xs, rfl, s, _⟩ := h; exact rdl (Rd.same sm s)
    | tup ms => cases e; obtain ⟨p, xs, rfl, s, _⟩ := h; exact .base (.tup (sm _ _ s))
    | _ => cases e
  | _ => cases e
theorem kitN {sub : Nat → Nat → Bool} {a : Sl} {k : Kd} {b : Bool} {n : String} (h : isQ sub a k = some b) (e : tyN a = some n) : (match k with | .exc _ => False | _ => True) ∧ kitB n k.nm = some b := by
  cases a with
  | no => cases e
  | own ds => cases e; cases k <;> first | (cases h; done) | (cases h; exact ⟨trivial, by decide +kernel⟩)
  | bor ds => cases e; cases k <;> first | (cases h; done) | (cases h; exact ⟨trivial, by decide +kernel⟩)
  | fr d => cases d with
    | ins c f => cases e
    | exc c f => cases e
    | _ => cases e; cases k <;> first | (cases h; done) | (cases h; exact ⟨trivial, by decide +kernel⟩)
  | view m => cases m with
    | lst ms => cases e; cases k <;> first | (cases h; done) | (cases h; exact ⟨trivial, by decide +kernel⟩)
    | tup ms => cases e; cases k <;> first | (cases h; done) | (cases h; exact ⟨trivial, by decide +kernel⟩)
    | _ => cases e
  | lent m => cases m with
    | lst ms => cases e; cases k <;> first | (cases h; done) | (cases h; exact ⟨trivial, by decide +kernel⟩)
    | tup ms => cases e; cases k <;> first | (cases h; done) | (cases h; exact ⟨trivial, by decide +kernel⟩)
    | _ => cases e
  | _ => cases e
theorem exc_kit (E : ExF T sub) (hK : X.K = T.K) {pins : List (Addr × Obj)} {σ : St} {H : Hp} {s : Shared} (I : Inv X pins σ H s) {c : Nat} {ds : List D} {v : V} (h : Rep T H (.exc c ds) v) :
    ∃ (a : Addr) (P : Heap → Prop), v = .ref a ∧ PySem.W.KitX X.K (.ref a) (.ref (T.eA c)) P ∧ P s.heap := by
  obtain ⟨a, d, xs, rfl, e, l, r⟩ := h
  obtain ⟨⟨oe, vs, he, hz, hd⟩, _⟩ := I.hok a _ e
  obtain ⟨oc, od, oda, osl⟩ := oe
  obtain ⟨h1, h2⟩ := hz
  dsimp only at h1 h2 hd
  subst h1 h2 hd
  rcases l with ⟨_, rfl⟩ | ⟨x, dx, _, rfl, e3⟩
  · refine ⟨a, fun h => PySem.W.InstAt h a ⟨.ref (T.eA c), none, .fields vs, osl⟩ (T.eA c) none, rfl, PySem.W.kitx_exc (gt := none) ?_ ?_ ?_ ?_ ?_ ?_ ?_ ?_, ⟨he, rfl, rfl, trivial⟩⟩ <;> rw [hK]
    · exact E.cl c
    · exact E.hga c
    · exact E.hgt c
    · exact E.hs c
    · exact E.ha c
    · exact E.hn
    · exact E.ht
    · exact E.hm c
  · obtain ⟨o, ho⟩ : ∃ o, s.heap.get? dx = some o := by
      have := I.hok dx _ e3
      obtain ⟨o, h, _⟩ := this
      obtain ⟨o2, _, _, h2, _⟩ := h
      exact ⟨_, h2⟩
    refine ⟨a, fun h => PySem.W.InstAt h a ⟨.ref (T.eA c), some dx, .fields vs, osl⟩ (T.eA c) (some o), rfl, PySem.W.kitx_exc (gt := none) ?_ ?_ ?_ ?_ ?_ ?_ ?_ ?_, ⟨he, rfl, rfl, ho⟩⟩ <;> rw [hK]
    · exact E.cl c
    · exact E.hga c
    · exact E.hgt c
    · exact E.hs c
    · exact E.ha c
    · exact E.hn
    · exact E.ht
    · exact E.hm c
theorem call_isQ (E : ExF T sub) (hK : X.K = T.K) : CallR X (.builtin "isinstance") (rIsQ T B sub) := by
  rintro pins s σ H xs us Q I r ⟨a, v, k, b, rfl, ra, e, q⟩
  cases en : tyN a with
  | some n =>
    obtain ⟨h1, h2⟩ := kitN e en
    refine call_isi pins s σ H _ us Q I r ⟨v, Kd.val T k, .type n, .type k.nm, b, rfl, ?_, tyx_of hK ra en, kit_ty h2, q⟩
    cases k <;> first | exact .ty _ | exact h1.elim
  | none =>
    cases a with
    | no => cases k <;> cases e
    | own ds => cases en
    | bor ds => cases en
    | fr d => cases d with
      | exc c ds =>
        obtain ⟨p, P, rfl, Z, hp⟩ := exc_kit E hK I ra
        obtain ⟨u1, u2, rfl, r1, r2⟩ := vals2 r
        cases (show u1 = Value.ref p from r1)
        cases k with
        | exc e2 =>
          cases e
          cases (show u2 = Value.ref (T.eA e2) from r2)
          exact PySem.W.kia_one Z I.kIn hp (by rw [hK]; exact E.kit c e2) (fun z => nomatch z) fun tk => ⟨.bl _, H, I.tok tk, rfl, q⟩
        | vErr =>
          cases e
          cases (show u2 = Value.type "ValueError" from r2)
          exact PySem.W.kia_one Z I.kIn hp (by rw [hK]; exact E.kitV c) (fun z => nomatch z) fun tk => ⟨.bl _, H, I.tok tk, rfl, q⟩
        | _ => cases e
      | ins c ds => cases k <;> cases e
      | _ => cases en
    | view m => cases m <;> first | (cases en; done) | (cases k <;> cases e)
    | lent m => cases m <;> first | (cases en; done) | (cases k <;> cases e)
    | _ => cases k <;> cases e
def sIs (sub : Nat → Nat → Bool) (k : Kd) (a : Ev Sl) : Ev Sl := sU (fun x => (isQ sub x k).map fun b => .fr (.bl b)) a
end
section
variable {X : Cx} {F : Fx} {N : List Str} {sc : Scope} {W : WX} {B : Bs} {sub : Nat → Nat → Bool}
/-- the class by its name -/
def KdOk (F : Fx) (x : Str) : Kd → Prop
  | .exc c => F.T.mg x = some (.ref (F.T.eA c))
  | k => F.T.mg x = none ∧ bootBuiltins x = some (.type k.nm)
theorem g_isi (E : ExF F.T sub) (G : Gx X F N sc) (k : Kd) {x : Str} {ea : Expr} {a : Ev Sl} {p p2 pos : Pos} (hi : F.T.mg "isinstance" = none) (hk : KdOk F x k) (ha : PE X ea (tE F.T W B a)) (hx : glB sc x = true := by rfl) (hg : glB sc "isinstance" = true := by rfl)
    (he : starEach [ea, .Name x p2] X.env = (false, eval ea X.env) :: starEach [.Name x p2] X.env := by rfl) (hpl : (backTo pos (starEach [.Name x p2] X.env)).any (·.1) = false := by rfl) : PE X (.Call (.Name "isinstance" p) [ea, .Name x p2] [] pos) (tE F.T W B (sIs sub k a)) := by
  obtain ⟨h1, h2, h3⟩ := glB_ok G hg
  obtain ⟨i1, i2, i3⟩ := glB_ok G hx
  have hc : PE X (.Name x p2) (tC (Kd.val F.T k)) := by
    cases k with
    | exc c =>
      have hr : RelV (.ref (F.T.eA c)) (.ref (F.T.eA c)) := rfl
      exact pe_glob i1 (by rw [G.mg]; exact hk) hr i2
    | _ => exact pe_bltn i1 (by rw [G.mg]; exact hk.1) hk.2 (show RelV (.ty _) (.type _) from rfl) i3 i2
  refine PE.of (pe_callB (call_isQ (B := B) E G.K) h1 (by rw [G.mg]; exact hi) (by decide +kernel) (pa_cons ha (pa_cons hc pa_nil rfl) he) h3 h2 he hpl) fun σ H Q h => ?_
  obtain ⟨δ, en, q⟩ := sU_read h
  refine ⟨δ, en, q.imp fun v H1 s1 ⟨y, z, ry, e, k2⟩ => ?_⟩
  obtain ⟨b, e2, rfl⟩ := Option.map_eq_some_iff.mp e
  exact ⟨y, v, k, b, rfl, ry, e2, k2 _ H1 Same.refl rfl⟩
end
end TT
end
section
set_option maxRecDepth 100000
set_option maxHeartbeats 4000000
/-! U14: statements with the context bundled; a def is a function upon data. -/
namespace TT
open PySem PySem.Spec PyProof.Rows L2

structure Gn (X : Cx) : Prop where
  fn : ∀ x, X.fn x = true
  kind : X.env.scope.kind = .function
structure Gs (X : Cx) (W : WX) (k : Nat) : Prop where
  n : Gn X
  r : Gr X k
  tk : Takes X W
  ps : PassesOwn (model X.prog X.w) X.A X.env X.xe
  st : X.stack = X.env :: X.outer
  fr : X.env.frame = some X.env.locals
theorem Gs.mono {X : Cx} {W : WX} {j k : Nat} (g : Gs X W k) (h : j ≤ k) : Gs X W j := ⟨g.n, g.r.mono h, g.tk, g.ps, g.st, g.fr⟩
theorem Gs.tr {X : Cx} {W W2 : WX} {k : Nat} (g : Gs X W k) {pn : List (Addr × Obj)} {xe : Value → Shared → Prop} (tk : Takes (X.tr pn xe) W2) (ps : PassesOwn (model X.prog X.w) X.A X.env xe) : Gs (X.tr pn xe) W2 k := ⟨⟨g.n.fn, g.n.kind⟩, ⟨g.r.calm, g.r.room⟩, tk, ps, g.st, g.fr⟩
theorem Gn.su {X : Cx} (g : Gn X) {a : Addr} {pn : List (Addr × Obj)} : Gn (X.suite a pn) := ⟨g.fn, g.kind⟩
theorem tk0 {X : Cx} : Takes X noW := fun _ _ ⟨_, _, _, _, _, _, _, _, _, _, _, _, _, _, _, _, w⟩ => w.elim
def locB (sc : Scope) (x : Str) : Bool := match sc.names.lookup x with
  | some .local => true
  | some .cell => true
  | _ => false
def lclB (sc : Scope) (x : Str) : Bool := match sc.names.lookup x with
  | some .local => true
  | _ => false
section
variable {X : Cx} {F : Fx} {N : List Str} {sc : Scope} {W : WX} {B : Bs} {k : Nat}
theorem locB_ok (G : Gx X F N sc) {x : Str} (h : locB sc x = true) : Loc X.env.scope x := by
  unfold locB at h
  rw [G.sc]
  split at h
  · rename_i e; exact .inl e
  · rename_i e; exact .inr e
  · cases h
theorem lclB_ok (G : Gx X F N sc) {x : Str} (h : lclB sc x = true) : X.env.scope.names.lookup x = some .local := by
  unfold lclB at h
  rw [G.sc]
  split at h
  · rename_i e; exact e
  · cases h
theorem ndX (G : Gx X F N sc) : X.N.Nodup := by rw [G.N]; exact G.nd
theorem s_set (n : Gn X) (G : Gx X F N sc) (i : Nat) {x : Str} {e : Expr} {a : Ev Sl} {pos pos' : Pos} (he : PE X e (tE F.T W B a)) (hN : N[i]? = some x := by rfl) (hx : locB sc x = true := by rfl) (hs : swapsWith e (some (.Name x pos')) pos.line X.env = pure false := by rfl) :
    PS X (.Assign [.Name x pos'] e pos) (tS F.T W B (xSet i a)) := ps_xSet (ndX G) (by rw [G.N]; exact hN) (locB_ok G hx) he hs (.inl (n.fn x))
theorem s_expr {e : Expr} {a : Ev Sl} {pos : Pos} (he : PE X e (tE F.T W B a)) (hs : swapsWith e none pos.line X.env = pure false := by rfl) : PS X (.Expr e pos) (tS F.T W B (xExpr a)) := ps_xExpr he hs
theorem s_ret {e : Expr} {a : Ev Sl} {pos : Pos} (he : PE X e (tE F.T W B a)) : PS X (.Return (some e) pos) (tS F.T W B (xRet a)) := ps_xRet he
theorem s_retmv (G : Gx X F N sc) (i : Nat) {x : Str} {pos pos' : Pos} (hN : N[i]? = some x := by rfl) (hv : visB sc x = true := by rfl) : PS X (.Return (some (.Name x pos')) pos) (tS F.T W B (xRetMv i)) := ps_xRetMv (gv G i hN hv)
theorem s_for (g : Gs X W k) {tg iter : Expr} {sts : List Stmt} {src : Src} {gt : TG} {t : Tg} {body : Ex} {pos : Pos} (hi : PI X tg iter (iR F.T W B (okS B.h) src)) (tk : TgOk F.T B gt t) (hg : PG X tg gt) (hb : PSs X sts (tS F.T W B body)) (hs : ∀ x, foldedSetIterable iter X.env x = pure x := by exact fun _ => rfl) :
    PS X (.For tg iter sts [] pos) (tS F.T W B (xFor src t body)) := ps_xFor g.ps g.r.calm hi hg tk hb hs
theorem s_while (g : Gs X W k) {ce : Expr} {sts : List Stmt} {c : Ev Bool} {body : Ex} {pos : Pos} (hc : PT X ce (tT F.T W B c)) (hb : PSs X sts (tS F.T W B body)) : PS X (.While ce sts [] pos) (tS F.T W B (xWhile c body)) := ps_xWhile g.ps hc hb
theorem s_mut (G : Gx X F N sc) (i : Nat) {id : String} {name x : Str} {e : Expr} {es : List Expr} {f : List D → List D → Option (List D)} {as : Ev (List Sl)} {r : V → List V → Hp → VK → Prop} {px apos cpos pos : Pos} (slot : Slot "list" name id) (hty : typeOf (.builtin id) = pure (.type "method_descriptor")) (hm : MtR X id r) (mo : MutOk F.T f r)
    (ha : PA X (e :: es) (tA F.T W B as)) (hN : N[i]? = some x := by rfl) (hv : visB sc x = true := by rfl)
    (hfew : ((backTo cpos (starEach (e :: es) X.env)).all (fun x => !x.1) && (backToKw cpos (keywordEach [] X.env)).all (fun x => x.1.isSome)
      && decide ((e :: es).length + ([] : List Keyword).length + (if ([] : List Keyword).isEmpty then 0 else 1) < 30)) = true := by rfl)
    (hline : (apos.endLine == cpos.line) = true := by rfl) (hs : starEach (e :: es) X.env = (false, eval e X.env) :: starEach es X.env := by rfl) (hplain : (backTo cpos (starEach es X.env)).any (·.1) = false := by rfl) :
    PS X (.Expr (.Call (.Attribute (.Name x px) name apos) (e :: es) [] cpos) pos) (tS F.T W B (xMut i as f)) := ps_xMut slot hty hm mo (gv G i hN hv) ha hfew hline hs hplain
theorem s_mut0 (G : Gx X F N sc) (i : Nat) {id : String} {name x : Str} {f : List D → List D → Option (List D)} {r : V → List V → Hp → VK → Prop} {px apos cpos pos : Pos} (slot : Slot "list" name id) (hty : typeOf (.builtin id) = pure (.type "method_descriptor")) (hm : MtR X id r) (mo : MutOk F.T f r)
    (hN : N[i]? = some x := by rfl) (hv : visB sc x = true := by rfl) (hline : (apos.endLine == cpos.line) = true := by rfl) :
    PS X (.Expr (.Call (.Attribute (.Name x px) name apos) [] [] cpos) pos) (tS F.T W B (xMut i sNil f)) := ps_xMut0 slot hty hm mo (gv G i hN hv) hline
theorem s_sto (G : Gx X F N sc) (i : Nat) {x : Str} {e ie : Expr} {ix a : Ev Sl} {px tp pos : Pos} (hi : PE X ie (tE F.T W B ix)) (he : PE X e (tE F.T W B a)) (hN : N[i]? = some x := by rfl) (hv : visB sc x = true := by rfl)
    (ha : ∀ v, assign (.Subscript (.Name x px) ie tp) X.env v = (do
      let ov ← holding [v] (eval (.Name x px) X.env)
      let iv ← holding [v, ov] (eval ie X.env)
      standAt tp
      holding [v, ov, iv] (setItem ov iv v)
      release [v, ov, iv] []) := by exact fun _ => rfl)
    (hs : swapsWithSole [.Subscript (.Name x px) ie tp] e pos.line X.env = pure false := by rfl) (hw : swappedStores [.Subscript (.Name x px) ie tp] e X.env = pure none := by rfl) :
    PS X (.Assign [.Subscript (.Name x px) ie tp] e pos) (tS F.T W B (xSto i ix a)) := ps_xSto (gv G i hN hv) hi he ha hs hw
/-! ### comprehensions -/
theorem g_comp (r : Gr X k) (G : Gx X F N sc) {elt tg iter : Expr} {ifs : List Expr} {scope : Scope} (own : List (Str × Nat)) {pos : Pos} {src : Src} {gt : TG} {t : Tg} {cond : Ev Bool} {ev : Ev D} (hi : PI X tg iter (iR F.T W B okX src)) (tk : TgOk F.T B gt t)
    (hg : ∀ Y : Cx, Gx Y F N (relS scope sc) → PG Y tg gt) (ht : ∀ Y : Cx, Gx Y F N (relS scope sc) → Gr Y k → PTs Y ifs (tT F.T noW B cond)) (he : ∀ Y : Cx, Gx Y F N (relS scope sc) → Gr Y k → PE Y elt (tD F.T noW B ev))
    (ok : blkC N sc scope own = true := by rfl) (hv : ∀ i ∈ t.slots, i ∈ own.map (·.2) := by decide) (hs : ∀ x, foldedSetIterable iter X.env x = pure x := by exact fun _ => rfl) :
    PE X (.ListComp elt [⟨tg, iter, ifs, 0⟩] scope pos) (tE F.T W B (sComp src t (own.map (·.2)) cond ev)) :=
  pe_sComp r.calm (ndX G) hi (by rw [G.N, G.sc]; exact blkOk_by ok) tk hv (fun _ _ _ _ _ => hg _ G.blk) (fun _ _ _ _ _ => ht _ G.blk r.blk) (fun _ _ _ _ _ => he _ G.blk r.blk) hs
theorem s_setc (n : Gn X) (r : Gr X k) (G : Gx X F N sc) (i : Nat) {y : Str} {py : Pos} {elt tg iter : Expr} {ifs : List Expr} {scope : Scope} (own : List (Str × Nat)) {pos spos : Pos} {src : Src} {gt : TG} {t : Tg} {cond : Ev Bool} {ev : Ev D} (hi : PI X tg iter (iR F.T W B okX src)) (tk : TgOk F.T B gt t)
    (hg : ∀ Y : Cx, Gx Y F N (relS scope sc) → PG Y tg gt) (ht : ∀ Y : Cx, Gx Y F N (relS scope sc) → Gr Y k → PTs Y ifs (tT F.T noW B cond)) (he : ∀ Y : Cx, Gx Y F N (relS scope sc) → Gr Y k → PE Y elt (tD F.T noW B ev))
    (hN : N[i]? = some y := by rfl) (hl : lclB sc y = true := by rfl) (hline : (py.line == pos.line) = true := by rfl) (hno : (scope.names.any fun (n, k) => n == y && (k == .local || k == .cell)) = false := by rfl)
    (ok : blkC N sc scope own = true := by rfl) (hv : ∀ i ∈ t.slots, i ∈ own.map (·.2) := by decide) (hs : ∀ x, foldedSetIterable iter X.env x = pure x := by exact fun _ => rfl) :
    PS X (.Assign [.Name y py] (.ListComp elt [⟨tg, iter, ifs, 0⟩] scope pos) spos) (tS F.T W B (xSet i (sComp src t (own.map (·.2)) cond ev))) :=
  ps_xSetComp r.calm (ndX G) (by rw [G.N]; exact hN) (lclB_ok G hl) (sw_true n.kind (lclB_ok G hl) hline hno) hi (by rw [G.N, G.sc]; exact blkOk_by ok) tk hv (fun _ _ _ _ _ => hg _ G.blk) (fun _ _ _ _ _ => ht _ G.blk r.blk) (fun _ _ _ _ _ => he _ G.blk r.blk) hs
theorem sw_cell {elt : Expr} {gs : List Comprehension} {scope : Scope} {pos py : Pos} {y : Str} {l : Nat} {env : Env} (hy : (env.scope.names.lookup y == some .local) = false) : swapsWith (.ListComp elt gs scope pos) (some (.Name y py)) l env = pure false := by
  have ky : (env.kindOf y == some .local) = false := hy
  unfold swapsWith
  simp only [ky, Expr.pos, Bool.and_false, Bool.false_and]
theorem s_setcc (n : Gn X) (G : Gx X F N sc) (i : Nat) {y : Str} {py : Pos} {elt : Expr} {gs : List Comprehension} {scope : Scope} {pos spos : Pos} {a : Ev Sl} (he : PE X (.ListComp elt gs scope pos) (tE F.T W B a)) (hN : N[i]? = some y := by rfl) (hx : locB sc y = true := by rfl) (hc : (sc.names.lookup y == some .local) = false := by rfl) :
    PS X (.Assign [.Name y py] (.ListComp elt gs scope pos) spos) (tS F.T W B (xSet i a)) := s_set n G i he hN hx (sw_cell (by rw [G.sc]; exact hc))
theorem p_one (G : Gx X F N sc) (i : Nat) {x : Str} {pos : Pos} (hN : N[i]? = some x := by rfl) (hx : lclB sc x = true := by rfl) : PG X (.Name x pos) (gName i) := by
  have h := lclB_ok G hx
  exact pg_name (ndX G) (by rw [G.N]; exact hN) (.inl h) (.inr h)
theorem p_cell (n : Gn X) (G : Gx X F N sc) (i : Nat) {x : Str} {pos : Pos} (hN : N[i]? = some x := by rfl) (hx : locB sc x = true := by rfl) : PG X (.Name x pos) (gName i) :=
  pg_name (ndX G) (by rw [G.N]; exact hN) (locB_ok G hx) (.inl (n.fn x))
theorem ps_nil : PGs X [] gNil := pgs_nil
/-! ### sources -/
theorem i_F (G : Gx X F N sc) {tg e : Expr} {a : Ev Sl} (h : PE X e (tE F.T W B a)) : PI X tg e (iR F.T W B (okS B.h) (srcF a)) := pi_srcF G.K h
theorem i_B (G : Gx X F N sc) (i : Nat) {tg : Expr} {x : Str} {pos : Pos} (hN : N[i]? = some x := by rfl) (hv : visB sc x = true := by rfl) : PI X tg (.Name x pos) (iR F.T W B (okS B.h) (srcB i)) := pi_srcB G.K (gv G i hN hv)
theorem i_X (G : Gx X F N sc) {tg e : Expr} {a : Ev Sl} (h : PE X e (tE F.T W B a)) : PI X tg e (iR F.T W B okX (srcX a)) := pi_srcX G.K h
theorem i_R1 {P : Hp → Hp → Prop} (G : Gx X F N sc) {tg e : Expr} {a : Ev Sl} {p pos : Pos} (hm : F.T.mg "range" = none) (h : PE X e (tE F.T W B a)) (hg : glB sc "range" = true := by rfl) (hs1 : starEach (e :: []) X.env = (false, eval e X.env) :: starEach [] X.env := by rfl) :
    PI X tg (.Call (.Name "range" p) [e] [] pos) (iR F.T W B P (srcR1 a)) := pi_srcR1 (glB_ok G hg).1 (by rw [G.mg]; exact hm) h hs1
theorem i_R2 {P : Hp → Hp → Prop} (G : Gx X F N sc) {tg e e2 : Expr} {a b : Ev Sl} {p pos : Pos} (hm : F.T.mg "range" = none) (h : PE X e (tE F.T W B a)) (h2 : PE X e2 (tE F.T W B b)) (hg : glB sc "range" = true := by rfl)
    (hs1 : starEach (e :: [e2]) X.env = (false, eval e X.env) :: starEach [e2] X.env := by rfl) (hs2 : starEach (e2 :: []) X.env = (false, eval e2 X.env) :: starEach [] X.env := by rfl) :
    PI X tg (.Call (.Name "range" p) [e, e2] [] pos) (iR F.T W B P (srcR2 a b)) := pi_srcR2 (glB_ok G hg).1 (by rw [G.mg]; exact hm) h h2 hs1 hs2
/-! ### exceptions -/
/-- a class without __init__ -/
structure Rz0 (F : Fx) (x : Str) (c : Nat) : Prop where
  gC : F.T.mg x = some (.ref (F.T.eA c))
  q : PySem.W.excIn F.T.K (F.T.eA c) [.type "ValueError", .type "Exception", .type "BaseException", .type "object"] "ValueError.__new__" = true
  kC : PySem.W.keepIn F.T.K (.ref (F.T.eA c)) = true
  r1 : PySem.W.subIn F.T.K (.ref (F.T.eA c)) (.type "BaseException") = some true
  r2 : PySem.W.typeIn F.T.K (.ref (F.T.eA c)) = some (.type "type")
theorem s_raise0 (g : Gs X W k) (G : Gx X F N sc) {x m : Str} {j : Nat} {c : Nat} {p p2 p3 pos : Pos} (z : Rz0 F x c) (hg : glB sc x = true := by rfl) : PS X (.Raise (some (.Call (.Name x p) [.Constant (.str m) j p2] [] p3)) none pos) (tS F.T W B (xRaise0 c)) := by
  obtain ⟨h1, h2, h3⟩ := glB_ok G hg
  exact ps_xRaise0 PySem.F.excBase_ValueError (by rw [G.K]; exact z.q) (by rw [G.mg]; exact z.gC) (by rw [G.K]; exact z.kC) (raises_own (by rw [G.K]; exact z.r1) (by rw [G.K]; exact z.r2)) h1 h2 g.r.calm g.tk
/-- a class of one field, by its __init__ -/
structure Rz1 (F : Fx) (x : Str) (c : Nat) : Prop where
  gC : F.T.mg x = some (.ref (F.T.eA c))
  O : OexC F.T.K (F.T.eA c)
  hno : PySem.W.findIn F.T.K (.ref (F.T.eA c)) (F.T.eF c) = some none
  ini : ∃ (fI : Addr) (fd : FuncData) (ps : List Str), PySem.W.findIn F.T.K (.ref (F.T.eA c)) "__init__" = some (some (.ref fI)) ∧ PySem.W.typeIn F.T.K (.ref fI) = some (.type "function") ∧ FnOk F.P F.w F.T.K F.T.mg F.base CX0 1 fI fd ps (spInit F.T.K (F.T.eF c)) ∧ Binds F.T.K fd ps []
theorem s_raise1 (g : Gs X W k) (G : Gx X F N sc) (hk : 2 ≤ k) {x : Str} {e : Expr} {a : Ev Sl} {c : Nat} {p p3 pos : Pos} (z : Rz1 F x c) (he : PE X e (tE F.T W B a)) (hg : glB sc x = true := by rfl) (hst : starEach (e :: []) X.env = (false, eval e X.env) :: starEach [] X.env := by rfl) :
    PS X (.Raise (some (.Call (.Name x p) [e] [] p3)) none pos) (tS F.T W B (xRaise1 c a)) := by
  obtain ⟨h1, h2, h3⟩ := glB_ok G hg
  obtain ⟨fI, fd, ps, i1, i2, i3, i4⟩ := z.ini
  rw [← G.prog, ← G.w, ← G.K, ← G.mg, ← G.base] at i3
  exact ps_xRaise1 (by rw [G.K]; exact z.O) (by rw [G.K]; exact z.hno) (by rw [G.K]; exact i1) (by rw [G.K]; exact i2) (by rw [G.K] at i3 ⊢; exact i3) (g.r.room.mono hk) (by rw [G.K]; exact i4) pass0 h1 (by rw [G.mg]; exact z.gC) he h2 hst g.r.calm g.tk
theorem s_try {sub : Nat → Nat → Bool} (E : ExF F.T sub) (g : Gs X W k) (G : Gx X F N sc) {body : List Stmt} {h0 : ExceptHandler} {es : List ExceptHandler} {l : List Hc} {pos : Pos} {b : Ex}
    (hb : ∀ (Y : Cx) (W2 : WX), Gx Y F N sc → Gs Y W2 k → PSs Y body (tS F.T W2 B b)) (hh : Hds X (h0 :: es) (l.map (toHd F.T B))) : PS X (.Try body (h0 :: es) [] [] pos) (tS F.T W B (xTry sub b l)) :=
  ps_xTry G.K (fun c e => E.exm c e) g.st g.fr (ndX G) g.tk (fun W2 pn xe tk ps => hb _ W2 G.tr (g.tr tk ps)) hh
theorem h_cons (G : Gx X F N sc) (n : Gn X) {x : Str} {nm : Option Str} {b0 : Stmt} {su : List Stmt} {np p' : Pos} {es : List ExceptHandler} {l : List Hc} (c : Nat) (sl : Option Nat) {ex : Ex} (gC : F.T.mg x = some (.ref (F.T.eA c))) (hn : match nm, sl with | none, none => True | some n, some i => N[i]? = some n ∧ lclB sc n = true | _, _ => False)
    (hsu : ∀ Y : Cx, Gx Y F N sc → Gn Y → PSs Y (b0 :: su) (tS F.T noW B ex)) (r : Hds X es (l.map (toHd F.T B))) (hg : glB sc x = true := by rfl) :
    Hds X (.ExceptHandler (some (.Name x np)) nm (b0 :: su) p' :: es) (((⟨c, sl, ex⟩ : Hc) :: l).map (toHd F.T B)) := by
  obtain ⟨h1, h2, h3⟩ := glB_ok G hg
  refine .cons (h := toHd F.T B ⟨c, sl, ex⟩) ⟨h1, h2, .inl (by rw [G.mg]; exact gC)⟩ ?_ (fun a pn => hsu _ G.su n.su) r
  cases nm with
  | none => cases sl with
    | none => trivial
    | some i => exact hn.elim
  | some n => cases sl with
    | none => exact hn.elim
    | some i => exact ⟨by rw [G.N]; exact hn.1, lclB_ok G hn.2⟩
/-! ### a def -/
theorem pr_get {α β : Type} {R : α → β → Prop} : ∀ {as : List α} {bs : List β} {i : Nat} {a : α}, Paired R as bs → as[i]? = some a → ∃ b, bs[i]? = some b ∧ R a b
  | _, _, i, _, .nil, e => by simp at e
  | _, _, 0, _, .cons r _, e => by simp at e; subst e; exact ⟨_, by simp, r⟩
  | _, _, i + 1, _, .cons _ rr, e => by
    obtain ⟨b, h1, h2⟩ := pr_get (i := i) rr (by simpa using e)
    exact ⟨b, by simpa using h1, h2⟩
def startD (n : Nat) (as : List Sl) : Dl := as ++ List.replicate (n - as.length) .no
/-- what a def's text does to data -/
def runG (n : Nat) (ex : Ex) (as : List Sl) : R Sl := match ex (startD n as) with
  | some (.nx _) => ok (.fr .non)
  | some (.ret _ r) => if outOk r = true then ok r else none
  | some (.exc _ c xs) => some (.exc c xs)
  | none => none
theorem start_env {T : Tx} {N : List Str} {H : Hp} {pv : Nat → V} {as : List Sl} {vs : List V} (h : Paired (ArgR T H) as vs) (hl : as.length ≤ N.length) : EnvR T ⟨H, pv⟩ H (startD N.length as) (L2.start N vs) where
  len := by
    unfold startD L2.start
    rw [List.length_append, List.length_append, List.length_map, List.length_replicate, List.length_replicate, h.length]
  same := Same.refl
  ex := by
    refine ⟨fun _ => [], ⟨fun i s e => ?_, fun _ => List.nodup_nil, fun i j a h => (by cases h), fun i a h => (by cases h)⟩⟩
    unfold startD at e
    by_cases hi : i < as.length
    · rw [List.getElem?_append_left hi] at e
      obtain ⟨v, e1, r⟩ := pr_get h e
      have e2 : (L2.start N vs).getD i none = some v := by
        unfold L2.start
        rw [List.getD_eq_getElem?_getD, List.getElem?_append_left (by rw [List.length_map, ← h.length]; exact hi), List.getElem?_map, e1]
        rfl
      rw [e2]
      cases s with
      | fr d => exact ⟨⟨v, rfl, r⟩, rfl⟩
      | bor ds =>
        obtain ⟨a, xs, rfl, e3, e4⟩ := r
        exact ⟨a, xs, rfl, e3, e4, rfl⟩
      | dt o ds =>
        cases o with
        | true => exact r.elim
        | false =>
          obtain ⟨a, xs, rfl, e3, e4⟩ := r
          exact ⟨a, xs, rfl, by unfold dtHO; simpa using e3, e4, rfl⟩
      | dk o ds =>
        cases o with
        | true => exact r.elim
        | false =>
          obtain ⟨a, xs, rfl, e3, e4⟩ := r
          exact ⟨a, xs, rfl, by unfold dtHO; simpa using e3, e4, rfl⟩
      | lent m => exact ⟨⟨v, rfl, r⟩, rfl⟩
      | _ => exact r.elim
    · rw [List.getElem?_append_right (by omega)] at e
      have := (List.getElem?_replicate.symm.trans e)
      split at this
      · cases this; rfl
      · cases this
theorem SlV.out {T : Tx} {B C H H' : Hp} {a : Sl} {v : V} (o : outOk a = true) (h : SlV T B H H' a v) : SlV T C H H' a v := by
  cases a with
  | fr d => exact h
  | own ds => exact h
  | deep m => exact h
  | _ => cases o
theorem fn_ok {f : Addr} {fd : FuncData} {x qual : Str} {params : Arguments} {body : List Stmt} {scope : Scope} {ps : List Str} (Fd : FunD F.T.K x qual params body scope [] [] f fd) (S : FnScope N ps scope) {ex : Ex}
    (hb : ∀ (X : Cx) (W : WX) (B : Bs), Gx X F N scope → Gs X W k → PSs X body (tS F.T W B ex)) : FnOk F.P F.w F.T.K F.T.mg F.base (L2.CX F.P F.w) (k + 1) f fd ps (spT F.T ps.length (runG N.length ex)) := by
  refine Fd.ok S (fun vs H Q E ⟨as, h1, h2, _⟩ => by rw [← h2.length, h1]) fun cdv A outer s H vs Q E hr ⟨as, h1, h2, h3⟩ => ?_
  have hpl : as.length ≤ N.length := by
    have := congrArg List.length S.pre
    rw [List.length_take] at this
    omega
  have tk : Takes (cxOf (L2.CX F.P F.w) F.P F.w F.T.K F.T.mg F.base N qual scope f cdv A outer s H E) (fun cls d _ H => E cls d H) := takes_of rfl rfl rfl rfl
  refine ⟨_, hb _ (fun cls d _ H => E cls d H) ⟨H, fun _ => .non⟩ ⟨rfl, rfl, rfl, rfl, rfl, rfl, S.nd, rfl⟩ ⟨⟨fun _ => rfl, S.kind⟩, ⟨rfl, hr⟩, tk, passes_of rfl, rfl, rfl⟩, startD N.length as, start_env h2 hpl, ?_⟩
  unfold runG at h3
  cases e : ex (startD N.length as) with
  | none => rw [e] at h3; exact h3.elim
  | some o =>
    rw [e] at h3
    cases o with
    | nx δ => exact fun σ' H' en m => h3 .non H' en.same rfl
    | ret δ r =>
      by_cases ok : outOk r = true
      · have h3 : Sat F.T (fun cls d _ H' => E cls d H') (SlV F.T E0h) [] H (if outOk r = true then _ else _) Q := h3
        rw [if_pos ok] at h3
        exact fun σ' v Hm H' en m sm q => h3 v H' (Same.trans en.same sm) ((okV F.T E0h).up _ _ _ _ _ en.same (q.out ok))
      · have h3 : Sat F.T (fun cls d _ H' => E cls d H') (SlV F.T E0h) [] H (if outOk r = true then _ else _) Q := h3
        rw [if_neg ok] at h3; exact h3.elim
    | exc δ c xs => exact fun σ' d H' en m p => h3 d H' en.same p
end
end TT
end
section
set_option maxRecDepth 100000
set_option maxHeartbeats 4000000
/-! V1: instances: their fields, their methods, how they are made. -/
namespace TT
open PySem PySem.Spec PyProof.Rows L2

theorem zip_lookup {f : Str} {α : Type} : ∀ {ns : List Str} {xs : List α} {i : Nat} {x : α}, ns.Nodup → ns[i]? = some f → xs[i]? = some x → (ns.zip xs).lookup f = some x
  | [], _, _, _, _, e, _ => by simp at e
  | _ :: _, [], _, _, _, _, e => by simp at e
  | n :: ns, y :: ys, 0, x, nd, e1, e2 => by
    simp at e1 e2; subst e1 e2
    rw [List.zip_cons_cons, List.lookup_cons]; simp
  | n :: ns, y :: ys, i + 1, x, nd, e1, e2 => by
    have e1 : ns[i]? = some f := by simpa using e1
    have e2 : ys[i]? = some x := by simpa using e2
    obtain ⟨h1, h2⟩ := List.nodup_cons.mp nd
    have hne : (f == n) = false := by
      rw [beq_eq_false_iff_ne]
      rintro rfl
      exact h1 (List.mem_of_getElem? e1)
    rw [List.zip_cons_cons, List.lookup_cons, hne]
    exact zip_lookup h2 e1 e2
theorem zip_none {f : Str} {α : Type} : ∀ {ns : List Str} {xs : List α}, f ∉ ns → (ns.zip xs).lookup f = none
  | [], _, _ => by simp
  | _ :: _, [], _ => by simp
  | n :: ns, y :: ys, h => by
    have hne : (f == n) = false := by
      rw [beq_eq_false_iff_ne]
      rintro rfl
      exact h List.mem_cons_self
    rw [List.zip_cons_cons, List.lookup_cons, hne]
    exact zip_none fun z => h (List.mem_cons_of_mem _ z)

/-! ### fields -/
def fAtt (ix : List (Option Nat)) (cs : List Nat) : Sl → Option Sl
  | .fr (.ins c ds) => (ix.getD c none).bind fun i => ds[i]?.map .fr
  | .view (.ins c ms) => (ix.getD c none).bind fun i => ms[i]?.map mView
  | .lent (.ins c ms) => (ix.getD c none).bind fun i => ms[i]?.map mLent
  | .fr (.exc c [d]) => if cs.contains c then some (.fr d) else none
  | _ => none
structure AttF (F : Fx) (f : Str) (ix : List (Option Nat)) (cs : List Nat) : Prop where
  ins : ∀ c i, ix.getD c none = some i → Cls F.T.K (F.T.cA c) ∧ NoAttr F.T.K (F.T.cA c) f ∧ (F.T.cF c)[i]? = some f ∧ (F.T.cF c).Nodup
  exc : ∀ c, cs.contains c = true → XfC F.T.K (F.T.eA c) ∧ PySem.W.findIn F.T.K (.ref (F.T.eA c)) f = some none ∧ F.T.eF c = f
section
variable {X : Cx} {F : Fx} {N : List Str} {sc : Scope} {W : WX} {B : Bs} {k : Nat}
theorem g_att (G : Gx X F N sc) {f : Str} {ix : List (Option Nat)} {cs : List Nat} {e : Expr} {a : Ev Sl} {pos : Pos} (A : AttF F f ix cs) (he : PE X e (tE F.T W B a)) (hb : attributeBase e f X.env (eval e X.env) = eval e X.env := by rfl) : PE X (.Attribute e f pos) (tE F.T W B (sU (fAtt ix cs) a)) := by
  refine ⟨fun pins s σ H Q I h => ?_⟩
  refine attr_of hb (thn (he.run pins s σ H _ I (sU_read h)) fun u s1 ⟨x, H1, I1, rx, y, z, ry, ez, k⟩ => ?_)
  have insAt : ∀ {p : Addr} {c i : Nat} {dx : Addr} {xs : List V} {w : V} {z : Sl}, x = .ref p → ix.getD c none = some i → H1 p = some (.ins (F.T.cA c) dx ((F.T.cF c).zip xs)) → xs[i]? = some w → SlV F.T B.h H1 H1 z w → (∀ v H', Same H1 H' → SlV F.T B.h H1 H' z v → Q v H') → wpAny (model X.prog X.w) X.A (getAttr u f true) (EP X pins σ Q) X.xe s1 := by
    intro p c i dx xs w z ex hi hp hw r k
    subst ex
    obtain rfl : u = Value.ref p := rx
    obtain ⟨c1, c2, c3, c4⟩ := A.ins c i hi
    rw [← G.K] at c1 c2
    exact getattr_ok I1 hp c1 c2 (zip_lookup c4 c3 hw) fun u' s2 I2 ru => ⟨w, H1, I2, ru, k w H1 Same.refl r⟩
  unfold fAtt at ez
  split at ez
  · rename_i c ds
    obtain ⟨i, e1, e2⟩ := Option.bind_eq_some_iff.mp ez
    obtain ⟨d, e3, rfl⟩ := Option.map_eq_some_iff.mp e2
    obtain ⟨p, dx, xs, ex, hp, hl, rr⟩ := ry
    obtain ⟨w, e4, rw⟩ := Reps.get rr e3
    exact insAt (z := .fr d) ex e1 hp e4 rw k
  · rename_i c ms
    obtain ⟨i, e1, e2⟩ := Option.bind_eq_some_iff.mp ez
    obtain ⟨d, e3, rfl⟩ := Option.map_eq_some_iff.mp e2
    obtain ⟨p, dx, xs, ex, hp, hl, rr⟩ := ry
    obtain ⟨w, e4, rw⟩ := RepVs.get rr e3
    exact insAt ex e1 hp e4 (view_of rw) k
  · rename_i c ms
    obtain ⟨i, e1, e2⟩ := Option.bind_eq_some_iff.mp ez
    obtain ⟨d, e3, rfl⟩ := Option.map_eq_some_iff.mp e2
    obtain ⟨sm, p, dx, xs, ex, hp, hl, rr⟩ := ry
    obtain ⟨w, e4, rw⟩ := RepVs.get rr e3
    exact insAt ex e1 (sm _ _ hp) e4 (lent_of rw sm) k
  · rename_i c d
    split at ez
    · rename_i hc
      cases ez
      obtain ⟨p, dd, xs, ex, hp, hl, rr⟩ := ry
      subst ex
      obtain rfl : u = Value.ref p := rx
      obtain ⟨c1, c2, c3⟩ := A.exc c hc
      rw [← G.K] at c1 c2
      obtain ⟨v, vs, e1, rv, rr2⟩ := rr
      cases rr2
      rcases hl with ⟨e2, _⟩ | ⟨x, dx, e2, rfl, hx⟩
      · rw [e1] at e2; cases e2
      · rw [e1] at e2; cases e2
        obtain ⟨⟨oe, vs, he2, hz, hd⟩, _⟩ := I1.hok p _ hp
        have hx2 : ObjOk X.prog X.w H1 s1.heap dx (.xd [(F.T.eF c, v)]) := I1.hok dx _ hx
        obtain ⟨mA, hns, hr⟩ := hx2
        obtain ⟨od, ho, hlk⟩ := lookIn_ns hns
        have hv : List.lookup f [(F.T.eF c, v)] = some v := by rw [c3, List.lookup_cons]; simp
        obtain ⟨u2, hu, ru⟩ := RelO.some_of (v := v) (o := mA f) (by rw [← hv]; exact hr f)
        have J : PySem.W.InstAt s1.heap p oe (F.T.eA c) (some od) := ⟨he2, hz.1, by unfold PySem.W.notCls; rw [hd] <;> rfl, by rw [hz.2]; exact ho⟩
        exact HandSPX.exc_get I1.kIn J c1.ga c1.gg c1.exC (PySem.W.findObj_own c1.hdC c2 rfl (by rw [hlk, hu])) (handed_of ru) ⟨v, H1, I1.tok _, ru, k v H1 Same.refl rv⟩
    · cases ez
  · cases ez

/-! ### methods -/
structure MthF (F : Fx) (m : Str) (k n : Nat) (mt : Nat → Option (List Sl → R Sl)) : Prop where
  at_ : ∀ c g, mt c = some g → Cls F.T.K (F.T.cA c) ∧ m ∉ F.T.cF c ∧ ∃ (f : Addr) (fd : FuncData) (ps : List Str), Meth F.T.K (F.T.cA c) m f ∧ FnOk F.P F.w F.T.K F.T.mg F.base (L2.CX F.P F.w) k f fd ps (spT F.T n g) ∧ Binds F.T.K fd ps []
/-- o.m(..): the receiver an instance -/
def sMth (mt : Nat → Option (List Sl → R Sl)) (bs : List Md) (o : Ev Sl) (as : Ev (List Sl)) : Ev Sl := fun δ => bnd (o δ) fun x => match x with
  | .fr (.ins c ds) => (match mt c with
    | some g => bnd (sCv bs as δ) fun l => g (.fr (.ins c ds) :: l)
    | none => none)
  | _ => none
theorem g_mth (G : Gx X F N sc) (r : Gr X k) {m : Str} {mt : Nat → Option (List Sl → R Sl)} {bs : List Md} {o e : Expr} {es : List Expr} {oe : Ev Sl} {as : Ev (List Sl)} {apos pos : Pos} {pl : Sem Bool} (M : MthF F m k (bs.length + 1) mt) (tk : Takes X W) (ho : PE X o (tE F.T W B oe)) (ha : PA X (e :: es) (tA F.T W B as))
    (hst : starEach (e :: es) X.env = (false, eval e X.env) :: starEach es X.env := by rfl) (hpl : (backTo pos (starEach es X.env)).any (·.1) = false := by rfl)
    (ht : eval (.Call (.Attribute o m apos) (e :: es) [] pos) X.env = (do
      let ov ← eval o X.env
      standAt apos.atName
      let (f, first) ← holding [ov] (getMethod ov m pl)
      callWith pos f first (backTo pos (starEach (e :: es) X.env)) (backToKw pos (keywordEach [] X.env))) := by rfl) :
    PE X (.Call (.Attribute o m apos) (e :: es) [] pos) (tE F.T W B (sMth mt bs oe as)) := by
  refine ⟨fun pins s σ H Q I ⟨δ, en, q⟩ => ?_⟩
  refine PySem.W.methodCall_KW (pl := pl) (thn (ho.run pins s σ H _ I ⟨δ, en, Sat.seq (rel := SlV F.T B.h) q⟩) fun u s1 ⟨x, H1, I1, rx, a, e1, ra, sm, k1⟩ => ?_) ht
  cases a with
  | fr d => cases d with
    | ins c ds =>
      dsimp only at k1
      cases hmt : mt c with
      | none => rw [hmt] at k1; exact k1.elim
      | some g =>
        rw [hmt] at k1
        have ra0 := ra
        obtain ⟨p, dx, xs, rfl, hp, hl, rr⟩ := ra
        obtain rfl : u = Value.ref p := rx
        obtain ⟨cl, nf, f, fd, ps, hm, F1, hb⟩ := M.at_ c g hmt
        rw [← G.prog, ← G.w, ← G.K, ← G.mg, ← G.base] at F1
        rw [← G.K] at cl hm hb
        refine getmeth_ok I1 hp cl hm (zip_none nf) ?_
        have k2 : Sat F.T W (SlV F.T B.h) σ H (bnd (sCv bs as δ) fun l => g (.fr (.ins c ds) :: l)) Q := k1
        refine PySem.W.callWith_K (first := [.ref p]) (h₀ := X.base) I1.ok.mod.kin hm.kp (thn ((pa_sCv (bs := bs) ha).run pos pins s1 σ H1 _ I1 ⟨δ, en.keep sm, (Sat.weak (okA F.T) sm (Sat.seq (rel := RlA F.T) k2)).imp fun vs H2 s12 q => And.intro s12 q⟩) fun us s2 ⟨vs, H2, I2, r2, s12, l, e2, rl, sm2, k3⟩ => ⟨I2.kIn, ?_⟩) hst hpl
        refine run_fnS (E := WE W) (us := .ref p :: us) (vs := .ref p :: vs) F1 r.room hb (passAt tk σ) I2 (.cons rfl r2) ⟨.fr (.ins c ds) :: l, ?_, .cons (Rep.mono (Same.mono s12) _ _ ra0) rl, ?_⟩
        · have hln : l.length = bs.length := by
            unfold sCv at e2
            cases e3 : as δ with
            | none => rw [e3] at e2; cases e2
            | some o =>
              rw [e3] at e2
              cases o with
              | exc c xs => cases e2
              | val a =>
                have e2 : opt (cvs bs a) = ok l := e2
                cases e4 : cvs bs a with
                | none => rw [e4] at e2; cases e2
                | some a' => rw [e4] at e2; cases e2; exact cvs_len e4
          simp [hln]
        · have k4 := Sat.weak (okV F.T B.h) sm2 k3
          unfold Sat at k4 ⊢
          cases e9 : g (.fr (.ins c ds) :: l) with
          | none => rw [e9] at k4; exact k4
          | some o =>
            rw [e9] at k4
            cases o with
            | exc c xs => exact k4
            | val a => exact fun v H' s q => k4 v H' s (SlV.base (Same.trans en.same (Same.trans sm2 s)) q)
    | _ => exact k1.elim
  | _ => exact k1.elim
theorem g_mth0 (G : Gx X F N sc) (r : Gr X k) {m : Str} {mt : Nat → Option (List Sl → R Sl)} {o : Expr} {oe : Ev Sl} {apos pos : Pos} {pl : Sem Bool} (M : MthF F m k 1 mt) (tk : Takes X W) (ho : PE X o (tE F.T W B oe))
    (ht : eval (.Call (.Attribute o m apos) [] [] pos) X.env = (do
      let ov ← eval o X.env
      standAt apos.atName
      let (f, first) ← holding [ov] (getMethod ov m pl)
      callWith pos f first (backTo pos (starEach [] X.env)) (backToKw pos (keywordEach [] X.env))) := by rfl) :
    PE X (.Call (.Attribute o m apos) [] [] pos) (tE F.T W B (sMth mt [] oe sNil)) := by
  refine ⟨fun pins s σ H Q I ⟨δ, en, q⟩ => ?_⟩
  refine PySem.W.methodCall_KW (pl := pl) (thn (ho.run pins s σ H _ I ⟨δ, en, Sat.seq (rel := SlV F.T B.h) q⟩) fun u s1 ⟨x, H1, I1, rx, a, e1, ra, sm, k1⟩ => ?_) ht
  cases a with
  | fr d => cases d with
    | ins c ds =>
      dsimp only at k1
      cases hmt : mt c with
      | none => rw [hmt] at k1; exact k1.elim
      | some g =>
        rw [hmt] at k1
        have ra0 := ra
        obtain ⟨p, dx, xs, rfl, hp, hl, rr⟩ := ra
        obtain rfl : u = Value.ref p := rx
        obtain ⟨cl, nf, f, fd, ps, hm, F1, hb⟩ := M.at_ c g hmt
        rw [← G.prog, ← G.w, ← G.K, ← G.mg, ← G.base] at F1
        rw [← G.K] at cl hm hb
        refine getmeth_ok I1 hp cl hm (zip_none nf) ?_
        have k2 : Sat F.T W (SlV F.T B.h) σ H (g [.fr (.ins c ds)]) Q := k1
        refine PySem.W.callWith_K0 (first := [.ref p]) I1.kIn hm.kp (run_fnS (E := WE W) (us := [.ref p]) (vs := [.ref p]) F1 r.room hb (passAt tk σ) I1 (.cons rfl .nil) ⟨[.fr (.ins c ds)], rfl, .cons ra0 .nil, ?_⟩)
        have k4 := Sat.weak (okV F.T B.h) sm k2
        unfold Sat at k4 ⊢
        cases e9 : g [.fr (.ins c ds)] with
        | none => rw [e9] at k4; exact k4
        | some o =>
          rw [e9] at k4
          cases o with
          | exc c xs => exact k4
          | val a => exact fun v H' s q => k4 v H' s (SlV.base (Same.trans en.same (Same.trans sm s)) q)
    | _ => exact k1.elim
  | _ => exact k1.elim
end

/-! ### making -/
def spIni (T : Tx) (c : Nat) : Sp := fun vs H Q _ => ∃ (x dx : Addr) (us : List V), vs = .ref x :: us ∧ us.length = (T.cF c).length ∧ H x = some (.ins (T.cA c) dx []) ∧ Q .non (upd H x (.ins (T.cA c) dx ((T.cF c).zip us)))
structure MakF (F : Fx) (x : Str) (k c n : Nat) : Prop where
  mg : F.T.mg x = some (.ref (F.T.cA c))
  len : (F.T.cF c).length = n
  ini : ∃ (fI : Addr) (fd : FuncData) (ps : List Str), Mk F.T.K (F.T.cA c) fI ∧ FnOk F.P F.w F.T.K F.T.mg F.base CX0 k fI fd ps (spIni F.T c) ∧ Binds F.T.K fd ps []
def sMake (c n : Nat) (as : Ev (List Sl)) : Ev Sl := fun δ => bnd (sFs as δ) fun ds => if ds.length = n then ok (.fr (.ins c ds)) else none
section
variable {X : Cx} {F : Fx} {N : List Str} {sc : Scope} {W : WX} {B : Bs} {k : Nat}
theorem g_make (G : Gx X F N sc) {j c n : Nat} (r : Gr X (j + 1)) {x : Str} {as : Ev (List Sl)} {p pos : Pos} {e : Expr} {es : List Expr} (M : MakF F x j c n) (ha : PA X (e :: es) (tA F.T W B as)) (hg : glB sc x = true := by rfl)
    (he : starEach (e :: es) X.env = (false, eval e X.env) :: starEach es X.env := by rfl) (hpl : (backTo pos (starEach es X.env)).any (·.1) = false := by rfl) : PE X (.Call (.Name x p) (e :: es) [] pos) (tE F.T W B (sMake c n as)) := by
  obtain ⟨h1, h2, h3⟩ := glB_ok G hg
  obtain ⟨fI, fd, ps, mk, F1, hb⟩ := M.ini
  rw [← G.prog, ← G.w, ← G.K, ← G.mg, ← G.base] at F1
  rw [← G.K] at mk hb
  refine PE.of (pe_make mk F1 r.room h1 (by rw [G.mg]; exact M.mg) hb .nil pass0 (pa_sFs ha) h2 he hpl) fun σ H Q h => ?_
  obtain ⟨δ, en, q⟩ := seq1 (T := F.T) (W := W) (B := B) (rel1 := RlDs F.T) (rel3 := SlV F.T B.h) (a := sFs as) (k := fun ds => if ds.length = n then ok (.fr (.ins c ds)) else none) (Q := Q) h
  refine ⟨δ, en, q.imp fun vs H1 s1 ⟨ds, rd, sm, _, k1⟩ x dx nx ndx ne => ?_⟩
  by_cases hn : ds.length = n
  · rw [if_pos hn] at k1
    have hs : Same H1 (upd (upd H1 dx (.own x)) x (.ins (F.T.cA c) dx ((F.T.cF c).zip vs))) := fun b o e => by
      rw [upd_ne (ne_of_none e nx), upd_ne (ne_of_none e ndx)]; exact e
    refine ⟨x, dx, vs, by rw [List.append_nil], by rw [M.len, ← hn]; exact rd.length.symm, upd_same, rfl, ?_⟩
    rw [upd_upd]
    exact k1 (.ref x) _ (Same.trans sm hs) ⟨x, dx, vs, rfl, upd_same, by rw [M.len, ← hn]; exact rd.length.symm, Reps.mono (Same.mono hs) _ _ rd⟩
  · rw [if_neg hn] at k1; exact k1.elim
end
/-- a body of «self.f = p» -/
inductive IniS (X : Cx) : List Stmt → List (Str × Nat) → Prop
  | nil : IniS X [] []
  | cons {o v : Expr} {f : Str} {i : Nat} {pos pos' : Pos} {sts : List Stmt} {l : List (Str × Nat)} (ho : PE X o (tVar 0)) (hv : PE X v (tVar i)) (hs : swapsWith v (some (.Attribute o f pos')) pos.line X.env = pure false) (r : IniS X sts l) : IniS X (.Assign [.Attribute o f pos'] v pos :: sts) ((f, i) :: l)
def iniFs (σ : St) (l : List (Str × Nat)) (fs : List (Str × V)) : List (Str × V) := l.foldl (fun fs p => putF p.1 ((σ.getD p.2 none).getD .non) fs) fs
theorem ini_run {X : Cx} : ∀ {sts : List Stmt} {l : List (Str × Nat)}, IniS X sts l → PSs X sts (fun De σ H => ∃ (x C dx : Addr) (fs : List (Str × V)), σ[0]? = some (some (.ref x)) ∧ H x = some (.ins C dx fs) ∧ Cls X.K C ∧ (∀ p ∈ l, NoAttr X.K C p.1) ∧ fs.length + l.length ≤ 1000 ∧
    (∀ p ∈ l, ∃ v, σ[p.2]? = some (some v)) ∧ De.nx σ (upd H x (.ins C dx (iniFs σ l fs))))
  | _, _, .nil => PSs.of pss_nil fun De σ H ⟨x, C, dx, fs, h1, h2, h3, h4, h5, h6, h7⟩ => by
    have e : upd H x (.ins C dx (iniFs σ [] fs)) = H := by
      funext b
      by_cases hb : b = x
      · subst hb; rw [upd_same]; exact h2.symm
      · rw [upd_ne hb]
    rw [e] at h7
    exact h7
  | _, _, .cons (f := f) (i := i) (l := l) ho hv hs r => by
    refine PSs.of (pss_cons (ps_fld ho hv hs) (ini_run r)) fun De σ H ⟨x, C, dx, fs, h1, h2, h3, h4, h5, h6, h7⟩ => ?_
    obtain ⟨v, hvs⟩ := h6 _ List.mem_cons_self
    have hl : fs.length + (l.length + 1) ≤ 1000 := h5
    have hput := length_putF f v fs
    refine ⟨v, hvs, .ref x, h1, x, C, dx, fs, rfl, h2, h3, h4 _ List.mem_cons_self, by omega, x, C, dx, putF f v fs, h1, upd_same, h3, fun p hp => h4 p (List.mem_cons_of_mem _ hp), by omega, fun p hp => h6 p (List.mem_cons_of_mem _ hp), ?_⟩
    rw [upd_upd]
    have e : iniFs σ ((f, i) :: l) fs = iniFs σ l (putF f v fs) := by
      have e2 : (σ.getD i none).getD .non = v := by rw [List.getD_eq_getElem?_getD, hvs]; rfl
      show iniFs σ l (putF f ((σ.getD i none).getD .non) fs) = _
      rw [e2]
    rw [e] at h7
    exact h7
theorem calm0 {P : Program} {w : World} {K : PySem.W.Frag} {mg : Str → Option Value} {base : Heap} {k : Nat} {f : Addr} {fd : FuncData} {ps : List Str} {sp : Sp} (F : FnOk P w K mg base (L2.CX P w) k f fd ps sp) : FnOk P w K mg base CX0 k f fd ps (fun vs H Q _ => sp vs H Q E0) :=
  ⟨fun vs H Q E h => F.len vs H Q E0 h, fun A outer s H args us vs Q E hr he hb hv hs => codeAny_mono (F.run A outer s H args us vs Q E0 hr he hb hv hs) fun r s' h => by
    cases r with
    | ok fl => cases fl <;> exact h
    | error e =>
      obtain ⟨_, _, _, _, _, _, _, _, _, _, _, _, z⟩ := (show L2.CX P w outer H s E0 e s' from h)
      exact z.elim⟩
/-- an __init__ of «self.f = p» -/
theorem ini_ok {F : Fx} {f : Addr} {fd : FuncData} {x qual : Str} {params : Arguments} {body : List Stmt} {scope : Scope} {N ps : List Str} {c : Nat} {l : List (Str × Nat)} (Fd : FunD F.T.K x qual params body scope [] [] f fd) (S : FnScope N ps scope)
    (hb : ∀ X : Cx, Gx X F N scope → IniS X body l) (cl : Cls F.T.K (F.T.cA c)) (na : ∀ p ∈ l, NoAttr F.T.K (F.T.cA c) p.1) (hps : ps.length = (F.T.cF c).length + 1) (hN : N.length = ps.length) (hl : l.length ≤ 1000) (hi : ∀ p ∈ l, 0 < p.2 ∧ p.2 < ps.length)
    (hf : ∀ (x : Addr) (us : List V), us.length = (F.T.cF c).length → iniFs ((V.ref x :: us).map some) l [] = (F.T.cF c).zip us) : FnOk F.P F.w F.T.K F.T.mg F.base CX0 1 f fd ps (spIni F.T c) := by
  refine FnOk.imp (calm0 (sp := spIni F.T c) ?_) fun vs H Q E h => h
  refine Fd.ok S (fun vs H Q E ⟨x, dx, us, h1, h2, _⟩ => by rw [h1, List.length_cons, h2, hps]) fun cdv A outer s H vs Q E hr ⟨x, dx, us, h1, h2, h3, h4⟩ => ?_
  subst h1
  have hst : L2.start N (V.ref x :: us) = (V.ref x :: us).map some := by
    unfold L2.start
    rw [hN, hps, List.length_cons, h2]; simp
  refine ⟨_, ini_run (hb _ ⟨rfl, rfl, rfl, rfl, rfl, rfl, S.nd, rfl⟩), x, F.T.cA c, dx, [], by rw [hst]; rfl, h3, cl, na, by simpa using hl, fun p hp => ?_, ?_⟩
  · obtain ⟨q1, q2⟩ := hi p hp
    have q3 : p.2 < (V.ref x :: us).length := by rw [List.length_cons, h2, ← hps]; exact q2
    exact ⟨(V.ref x :: us)[p.2], by rw [hst, List.getElem?_map, List.getElem?_eq_getElem q3]; rfl⟩
  · rw [hst, hf x us h2]
    exact h4
end TT
end
section
set_option maxRecDepth 100000
set_option maxHeartbeats 4000000
/-! V2: several targets, x op= e. -/
namespace TT
open PySem PySem.Spec PyProof.Rows L2
section
variable {X : Cx} {F : Fx} {N : List Str} {sc : Scope} {W : WX} {B : Bs} {k : Nat}
theorem p_many (r : Gr X k) (G : Gx X F N sc) {es : List Expr} {kk : Nat} {is : List Nat} {pos : Pos} (h : PGs X es (gNames is)) (n : Nat)
    (hn : (assignEach es X.env).length = n := by rfl) (hst : (assignEach es X.env).findIdx? (·.1) = none := by rfl) : PG X (.Tuple es kk pos) (gSq F.T.K n (gNames is)) := by
  rw [← G.K]
  refine ⟨fun pins s σ H v u Q I rv ⟨a, xs, e1, hq, hl, hw⟩ => ?_⟩
  rcases hq with hq | hq
  · exact (pg_lst r.calm h hn hst).run pins s σ H v u Q I rv ⟨a, xs, e1, hq, hl, hw⟩
  · exact (pg_tup r.calm h hn hst).run pins s σ H v u Q I rv ⟨a, xs, e1, hq, hl, hw⟩
theorem ps_cons {e : Expr} {es : List Expr} {i : Nat} {is : List Nat} (h1 : PG X e (gName i)) (h2 : PGs X es (gNames is))
    (hs : (assignEach (e :: es) X.env).map (·.2) = assign e X.env :: (assignEach es X.env).map (·.2) := by rfl) : PGs X (e :: es) (gNames (i :: is)) := pgs_cons h1 h2 hs
/-- a, b, .. = e -/
def xUnp (is : List Nat) (a : Ev Sl) : Ex := fun δ => thenS δ (sF a δ) fun d => match Tg.put (.many is) d δ with
  | some δ' => some (.nx δ')
  | none => none
theorem s_unp (r : Gr X k) (G : Gx X F N sc) {es : List Expr} {kk : Nat} {is : List Nat} {e : Expr} {a : Ev Sl} {pos pos' : Pos} (he : PE X e (tE F.T W B a)) (h : PGs X es (gNames is)) (n : Nat) (hn2 : n = is.length := by rfl)
    (hn : (assignEach es X.env).length = n := by rfl) (hst : (assignEach es X.env).findIdx? (·.1) = none := by rfl) (hs : swapsWithSole [.Tuple es kk pos'] e pos.line X.env = pure false := by rfl) (hw : swappedStores [.Tuple es kk pos'] e X.env = pure none := by rfl)
    (h1 : (assignEach [.Tuple es kk pos'] X.env).map (·.2) = [assign (.Tuple es kk pos') X.env] := by rfl) : PS X (.Assign [.Tuple es kk pos'] e pos) (tS F.T W B (xUnp is a)) := by
  refine PS.of (ps_asg (pe_sF he) (p_many r G h n hn hst) hs hw h1) fun De σ H ⟨δ, en, q⟩ => ⟨δ, en, ?_⟩
  refine (SatS.expr (rel := RlD F.T) en q).imp fun v H1 s1 ⟨d, e1, rd, sm, en1, k⟩ => ?_
  cases e2 : Tg.put (.many is) d δ with
  | none => rw [e2] at k; exact k.elim
  | some δ' =>
    rw [e2] at k
    exact (tg_many hn2).put v d σ H1 δ δ' _ en1 rd e2 fun σ' en' _ => k σ' H1 en' Mono.refl
/-- a, b = x, y -/
def xPar (i j : Nat) (as : Ev (List Sl)) : Ex := fun δ => thenS δ (sFs as δ) fun ds => match ds with
  | [a, b] => if i < δ.length ∧ j < δ.length then some (.nx ((δ.set i (.fr a)).set j (.fr b))) else none
  | _ => none
theorem s_par (n : Gn X) (r : Gr X k) (G : Gx X F N sc) (i j : Nat) {x y : Str} {a b : Expr} {as : Ev (List Sl)} {px py pt pos : Pos} {kt k2 pt2} (ha : PA X [a, b] (tA F.T W B as)) (hi : N[i]? = some x := by rfl) (hj : N[j]? = some y := by rfl) (hij : i ≠ j := by decide)
    (hx : lclB sc x = true := by rfl) (hy : lclB sc y = true := by rfl)
    (hw : ∀ env : Env, env.scope.kind = .function → env.scope.names.lookup x = some .local → env.scope.names.lookup y = some .local → swappedStores [.Tuple [.Name x px, .Name y py] kt pt] (.Tuple [a, b] k2 pt2) env = pure (some [x, y]))
    (hs : swapsWithSole [.Tuple [.Name x px, .Name y py] kt pt] (.Tuple [a, b] k2 pt2) pos.line X.env = pure false := by rfl) :
    PS X (.Assign [.Tuple [.Name x px, .Name y py] kt pt] (.Tuple [a, b] k2 pt2) pos) (tS F.T W B (xPar i j as)) := by
  have lx := lclB_ok G hx
  have ly := lclB_ok G hy
  refine PS.of (ps_par r.calm (ndX G) (by rw [G.N]; exact hi) (by rw [G.N]; exact hj) hij lx ly (pa_sFs ha) (hw X.env n.kind lx ly) hs) fun De σ H ⟨δ, en, q⟩ => ⟨δ, en, ?_⟩
  refine (SatS.expr (rel := RlDs F.T) en q).imp fun v H1 s1 ⟨ds, e1, rd, sm, en1, k⟩ => ?_
  match ds, rd, k with
  | [d1, d2], ⟨v1, _, h1, r1, v2, _, h2, r2, h3⟩, k =>
    subst h1 h2 h3
    dsimp only at k
    by_cases hl : i < δ.length ∧ j < δ.length
    · rw [if_pos hl] at k
      refine ⟨v1, v2, rfl, k _ H1 ((en1.setFr hl.1 r1).setFr (by rw [List.length_set]; exact hl.2) r2) Mono.refl⟩
    · rw [if_neg hl] at k; exact k.elim
  | [], _, k => exact k.elim
  | [_], _, k => exact k.elim
  | _ :: _ :: _ :: _, _, k => exact k.elim
/-- x op= e, of whole numbers -/
def xAug (i : Nat) (f : Int → Int → Int) (a : Ev Sl) : Ex := fun δ => match δ[i]? with
  | some (.fr (.int x)) => thenS δ (a δ) fun r => (match asI r with
    | some y => some (.nx (δ.set i (.fr (.int (f x y)))))
    | none => none)
  | _ => none
theorem s_aug (n : Gn X) (G : Gx X F N sc) (i : Nat) {op : Operator} {f : Int → Int → Int} {x : Str} {e : Expr} {a : Ev Sl} {pos pos' : Pos} (ho : PIp X op (ipI f)) (he : PE X e (tE F.T W B a)) (hN : N[i]? = some x := by rfl) (hx : locB sc x = true := by rfl) :
    PS X (.AugAssign (.Name x pos') op e pos) (tS F.T W B (xAug i f a)) := by
  refine PS.of (ps_aug (ndX G) (by rw [G.N]; exact hN) (locB_ok G hx) he ho (.inl (n.fn x))) fun De σ H ⟨δ, en, q⟩ => ?_
  unfold xAug at q
  cases e1 : δ[i]? with
  | none => rw [e1] at q; exact q.elim
  | some sl =>
    rw [e1] at q
    obtain ⟨Fp, ff⟩ := en.ex
    have hi : i < δ.length := (List.getElem?_eq_some_iff.mp e1).1
    cases sl with
    | fr d => cases d with
      | int z =>
        obtain ⟨⟨v, e2, rv⟩, _⟩ := ff.slot i _ e1
        cases rv
        refine ⟨.int z, get_slot e2, δ, en, ?_⟩
        have q : SatS F.T W B De H (thenS δ (a δ) fun r => (match asI r with
          | some y => some (.nx (δ.set i (.fr (.int (f z y)))))
          | none => none)) := q
        refine (SatS.expr (rel := SlV F.T B.h) en q).imp fun v H1 s1 ⟨r, e3, rl, sm, en1, k⟩ => ?_
        cases e4 : asI r with
        | none => rw [e4] at k; exact k.elim
        | some y =>
          rw [e4] at k
          exact ⟨z, y, rfl, rl.int e4, k _ H1 (en1.setFr hi rfl) Mono.refl⟩
      | _ => exact q.elim
    | _ => exact q.elim
end
end TT
end
section
set_option maxRecDepth 100000
set_option maxHeartbeats 4000000
/-! V3: zip and enumerate over lists, tuples and texts, in any mix. -/
namespace TT
open PySem PySem.Spec PyProof.Rows L2

/-- what is drawn from: a list, a tuple, a text -/
inductive Ik where
  | lst (a : Addr) | tup (a : Addr) | txt (x : Str) (t : Tok)
def Ik.val : Ik → Value
  | .lst a => .ref a
  | .tup a => .ref a
  | .txt x t => .str x t
def Ik.obj : Ik → Obj
  | .lst a => { cls := .type "list_iterator", data := .fields #[.ref a, .int 0 0] }
  | .tup a => { cls := .type "tuple_iterator", data := .fields #[.ref a, .int 0 0] }
  | .txt x t => { cls := .type (strIterType x), data := .fields #[.str x t, .int 0 0] }
def Ik.itr : Ik → Addr → Nat → Heap → Prop
  | .lst a, it, i, h => h.IsListIter it a i
  | .tup a, it, i, h => h.IsTupleIter it a i
  | .txt x t, it, i, h => h.IsStrIter it (strIterType x) x t i
/-- the same without the text's token -/
inductive Vk where
  | lst (a : Addr) | tup (a : Addr) | txt (x : Str)
def Vk.val : Vk → V
  | .lst a => .ref a
  | .tup a => .ref a
  | .txt x => .str x
def Vk.has (K : PySem.W.Frag) (H : Hp) : Vk → List V → Prop
  | .lst a, xs => SqL K H a xs
  | .tup a, xs => SqT K H a xs
  | .txt x, xs => xs = x.cps.toList.map fun c => V.str ⟨#[c]⟩
def Ik.vk : Ik → Vk
  | .lst a => .lst a
  | .tup a => .tup a
  | .txt x _ => .txt x
theorem Vk.ik {k : Vk} {u : Value} (r : RelV k.val u) : ∃ j : Ik, j.vk = k ∧ j.val = u := by
  cases k with
  | lst a => cases r; exact ⟨.lst a, rfl, rfl⟩
  | tup a => cases r; exact ⟨.tup a, rfl, rfl⟩
  | txt x => obtain ⟨t, rfl⟩ := r; exact ⟨.txt x t, rfl, rfl⟩
abbrev Ik.has (K : PySem.W.Frag) (H : Hp) (k : Ik) (xs : List V) : Prop := k.vk.has K H xs
def Ik.src : Ik → Addr → Prop
  | .lst a, b => b = a
  | .tup a, b => b = a
  | .txt _ _, _ => False
theorem ik_at {k : Ik} {it : Addr} {i : Nat} {h h' : Heap} (st : k.itr it i h) (q : ∀ o, h.get? it = some o → h'.get? it = some o) : k.itr it i h' := by
  cases k with
  | lst a => exact Heap.IsListIter.at st q
  | tup a => exact Heap.IsTupleIter.at st q
  | txt x t => obtain ⟨o, ho, r⟩ := st; exact ⟨o, q o ho, r⟩
theorem Ik.obj_at {k : Ik} {it : Addr} {i : Nat} {h : Heap} (st : k.itr it i h) : ∃ o, h.get? it = some o ∧ ∀ v, o.data ≠ .cell v := by
  cases k with
  | lst a => obtain ⟨o, e, _, d⟩ := st; exact ⟨o, e, fun v q => by rw [d] at q; cases q⟩
  | tup a => obtain ⟨o, e, _, d⟩ := st; exact ⟨o, e, fun v q => by rw [d] at q; cases q⟩
  | txt x t => obtain ⟨o, e, _, d⟩ := st; exact ⟨o, e, fun v q => by rw [d] at q; cases q⟩
theorem Ik.start {k : Ik} {it : Addr} {h : Heap} (e : h.get? it = some k.obj) : k.itr it 0 h := by
  cases k with
  | lst a => exact ⟨_, e, rfl, rfl⟩
  | tup a => exact ⟨_, e, rfl, rfl⟩
  | txt x t => exact ⟨_, e, rfl, rfl⟩
section
variable {X : Cx} {pins : List (Addr × Obj)} {σ : St} {H : Hp} {s : Shared}
theorem Ik.inj (I : Inv X pins σ H s) {k : Ik} {xs ys : List V} (h1 : k.has X.K H xs) (h2 : k.has X.K H ys) : xs = ys := by
  cases k with
  | lst a => exact I.list_inj h1 h2
  | tup a => exact I.tuple_inj h1 h2
  | txt x t => exact (show xs = _ from h1).trans (show ys = _ from h2).symm
theorem Ik.lt (I : Inv X pins σ H s) {k : Ik} {xs : List V} (h : k.has X.K H xs) {b : Addr} (hb : k.src b) : b < s.heap.objs.size := by
  cases k with
  | lst a => cases (show b = a from hb); obtain ⟨its, rv, p, _⟩ := I.list h; exact p.lt
  | tup a => cases (show b = a from hb); obtain ⟨its, rv, p, _⟩ := I.tuple h; obtain ⟨o, ho, _⟩ := p; exact Heap.lt_size ho
  | txt x t => exact hb.elim
theorem Ik.begins (I : Inv X pins σ H s) {k : Ik} {xs : List V} (h : k.has X.K H xs) : ∃ Hh : Heap → Prop, Begins k.val k.obj Hh ∧ Hh s.heap := by
  cases k with
  | lst a => obtain ⟨its, rv, p, _⟩ := I.list h; exact ⟨_, begins_list a its.toArray, p.isList⟩
  | tup a => obtain ⟨its, rv, p, _⟩ := I.tuple h; exact ⟨_, begins_tuple a its.toArray, p⟩
  | txt x t => exact ⟨_, begins_text x t, trivial⟩
theorem vals_getB : ∀ {xs : List V} {us : List Value} {i : Nat} {u : Value}, Vals xs us → us[i]? = some u → ∃ x, xs[i]? = some x ∧ RelV x u
  | _, _, i, _, .nil, e => by simp at e
  | _, _, 0, _, .cons r _, e => by simp at e; subst e; exact ⟨_, by simp, r⟩
  | _, _, i + 1, _, .cons _ rr, e => by
    obtain ⟨b, h1, h2⟩ := vals_getB (i := i) rr (by simpa using e)
    exact ⟨b, by simpa using h1, h2⟩
theorem Ik.draws (I : Inv X pins σ H s) (hc : X.calm = true) {k : Ik} {it : Addr} {i : Nat} {xs : List V} (h : k.has X.K H xs) (st : k.itr it i s.heap) (far : ¬ k.src it) :
    ∃ (fp : List Addr) (P : Nat → Value → Prop) (S : Nat → Heap → Prop), Draws X.prog X.w X.A.in1 it fp xs.length P S ∧ S i s.heap ∧ (∀ j v, P j v → ∃ x, xs[j]? = some x ∧ RelV x v) ∧ (∀ j h, S j h → k.itr it j h) ∧ it ∈ fp ∧ ∀ b ∈ fp, b = it ∨ k.src b := by
  have hh : X.A.in1.handled = none := I.ok.hd hc
  cases k with
  | lst a =>
    obtain ⟨its, rv, p, _⟩ := I.list h
    have hl := rv.length
    have D := Draws.list (prog := X.prog) (w := X.w) hh it a (fun z => far z.symm) its.toArray
    rw [List.size_toArray, ← hl] at D
    refine ⟨_, _, _, D, ⟨st, p.isList⟩, fun j v hv => vals_getB rv (by simpa using hv), fun j h q => q.1, by simp, fun b hb => ?_⟩
    have hb : b = it ∨ b = a := by simpa using hb
    exact hb
  | tup a =>
    obtain ⟨its, rv, p, _⟩ := I.tuple h
    have hl := rv.length
    have D := Draws.tuple (prog := X.prog) (w := X.w) hh it a (fun z => far z.symm) its.toArray
    rw [List.size_toArray, ← hl] at D
    refine ⟨_, _, _, D, ⟨st, p⟩, fun j v hv => vals_getB rv (by simpa using hv), fun j h q => q.1, by simp, fun b hb => ?_⟩
    have hb : b = it ∨ b = a := by simpa using hb
    exact hb
  | txt x t =>
    cases (show xs = _ from h)
    have D := Draws.text (prog := X.prog) (w := X.w) hh it x t
    rw [show x.cps.size = (x.cps.toList.map fun c => V.str ⟨#[c]⟩).length by simp] at D
    refine ⟨_, _, _, D, st, fun j v hv => ?_, fun j h q => q, by simp, fun b hb => .inl (by simpa using hb)⟩
    obtain ⟨c, u, h1, rfl⟩ := hv
    exact ⟨.str ⟨#[c]⟩, by rw [List.getElem?_map, Array.getElem?_toList, h1]; rfl, u, rfl⟩
end

/-! ### zip -/
structure ZAp (z TI TO i1 i2 : Addr) (k1 k2 : Ik) : Prop where
  TIz : TI ≠ z
  TOz : TO ≠ z
  TITO : TI ≠ TO
  TIi1 : TI ≠ i1
  TIi2 : TI ≠ i2
  TOi1 : TO ≠ i1
  TOi2 : TO ≠ i2
  i1z : i1 ≠ z
  i2z : i2 ≠ z
  i12 : i1 ≠ i2
  far : ∀ b, (k1.src b ∨ k2.src b) → b ≠ z ∧ b ≠ TI ∧ b ≠ TO ∧ b ≠ i1 ∧ b ≠ i2
theorem ZAp.sep {z TI TO i1 i2 : Addr} {k1 k2 : Ik} (D : ZAp z TI TO i1 i2 k1 k2) {fp1 fp2 : List Addr} (m1 : i1 ∈ fp1) (m2 : i2 ∈ fp2) (s1 : ∀ b ∈ fp1, b = i1 ∨ k1.src b) (s2 : ∀ b ∈ fp2, b = i2 ∨ k2.src b) : ZipSep2 z TI TO i1 i2 fp1 fp2 where
  TIz := D.TIz
  TOz := D.TOz
  TITO := D.TITO
  TIi1 := D.TIi1
  mem1 := m1
  zf1 := fun h => by
    rcases s1 _ h with e | e
    · exact D.i1z e.symm
    · exact (D.far _ (.inl e)).1 rfl
  Tf1 := fun h => by
    rcases s1 _ h with e | e
    · exact D.TOi1 e
    · exact (D.far _ (.inl e)).2.2.1 rfl
  TIi2 := D.TIi2
  mem2 := m2
  zf2 := fun h => by
    rcases s2 _ h with e | e
    · exact D.i2z e.symm
    · exact (D.far _ (.inr e)).1 rfl
  Tf2 := fun h => by
    rcases s2 _ h with e | e
    · exact D.TOi2 e
    · exact (D.far _ (.inr e)).2.2.1 rfl
  sep1_2 := fun h => by
    rcases s2 _ h with e | e
    · exact D.i12 e
    · exact (D.far _ (.inr e)).2.2.2.1 rfl
  sep2_1 := fun h => by
    rcases s1 _ h with e | e
    · exact D.i12 e.symm
    · exact (D.far _ (.inl e)).2.2.2.2 rfl
def Itz2 (K : PySem.W.Frag) (k1 k2 : Vk) : It :=
  ⟨fun i H => ∃ (xs ys : List V) (x y : V), k1.has K H xs ∧ k2.has K H ys ∧ xs[i]? = some x ∧ ys[i]? = some y,
    fun i H v H' => ∃ T x y, v = .ref T ∧ H T = none ∧ H' = upd H T (.tup [x, y]) ∧ (∀ xs, k1.has K H xs → xs[i]? = some x) ∧ ∀ ys, k2.has K H ys → ys[i]? = some y,
    fun i H => ∃ xs ys : List V, k1.has K H xs ∧ k2.has K H ys ∧ i ≤ xs.length ∧ i ≤ ys.length ∧ (i = xs.length ∨ i = ys.length)⟩
theorem turn_zip2 {P : Program} {w : World} {K : PySem.W.Frag} {elts : List Expr} {kk : Nat} {tpos : Pos} {k1 k2 : Ik} {z TI TO i1 i2 : Addr} (D : ZAp z TI TO i1 i2 k1 k2) :
    Turn P w K (.Tuple elts kk tpos) (Itz2 K k1.vk k2.vk) [z, TI, TO, i1, i2] z (fun i h => IsZip h z TI TO .none ∧ IsTupOf2 h TI (.ref i1) (.ref i2) ∧ (∃ x y, IsTupOf2 h TO x y) ∧ k1.itr i1 i h ∧ k2.itr i2 i h) where
  mem := by simp
  obj := fun i h st c hc => by
    obtain ⟨hz, hTI, ⟨x, y, hTO⟩, h1, h2⟩ := st
    have e' : c = z ∨ c = TI ∨ c = TO ∨ c = i1 ∨ c = i2 := by simpa using hc
    rcases e' with q | q | q | q | q
    · rw [q]; exact ⟨_, hz, fun v q => nomatch q⟩
    · rw [q]; exact ⟨_, hTI, fun v q => nomatch q⟩
    · rw [q]; exact ⟨_, hTO, fun v q => nomatch q⟩
    · rw [q]; exact Ik.obj_at h1
    · rw [q]; exact Ik.obj_at h2
  keep := fun i h h' st k => by
    obtain ⟨hz, hTI, ⟨x, y, hTO⟩, h1, h2⟩ := st
    exact ⟨k z (by simp) _ hz, k TI (by simp) _ hTI, ⟨x, y, k TO (by simp) _ hTO⟩, ik_at h1 fun o q => k i1 (by simp) o q, ik_at h2 fun o q => k i2 (by simp) o q⟩
  item := by
    intro X hP hw hK hc i pins s σ H E I hf st hg
    subst hP hw hK
    obtain ⟨hz, hTI, ⟨x0, y0, hTO⟩, h1, h2⟩ := st
    obtain ⟨xs, ys, x, y, hqx, hqy, hx, hy⟩ := hg
    obtain ⟨fp1, P1, S1, D1, st1, p1, k1', m1, f1⟩ := Ik.draws I hc hqx h1 (fun z => (D.far _ (.inl z)).2.2.2.1 rfl)
    obtain ⟨fp2, P2, S2, D2, st2, p2, k2', m2, f2⟩ := Ik.draws I hc hqy h2 (fun z => (D.far _ (.inr z)).2.2.2.2 rfl)
    have hzl : z < s.heap.objs.size := Heap.lt_size hz
    refine wpAny_pyNext_zipD2_item (D.sep m1 m2 f1 f2) D1 D2 hz hTI hTO st1 st2 (List.getElem?_eq_some_iff.mp hx).1 (List.getElem?_eq_some_iff.mp hy).1 fun u u2 h' tk q1 q2 z' TO' h1' h2' hT hsz hk => ?_
    obtain ⟨x', hx', ru⟩ := p1 _ _ q1
    obtain ⟨y', hy', ru2⟩ := p2 _ _ q2
    rw [hx] at hx'; cases hx'
    rw [hy] at hy'; cases hy'
    refine ⟨_, rfl, wpAny_letOwnedTupleGo_zip (s := { s with heap := h', toks := tk }) z' fun h'' z'' sb => ?_⟩
    have hT2 : h''.get? s.heap.objs.size = some { cls := .type "tuple", data := .seq #[u, u2] } := (sb.2 _ (Nat.ne_of_gt hzl)).trans hT
    have new : ObjOk X.prog X.w (upd H s.heap.objs.size (.tup [x, y])) h'' s.heap.objs.size (.tup [x, y]) :=
      ⟨by show 2 ≤ sizeLine; decide, [u, u2], .cons ru (.cons ru2 .nil), ⟨_, hT2, rfl, _, rfl⟩⟩
    have I1 : Inv X pins σ (upd H s.heap.objs.size (.tup [x, y])) { s with heap := h'', toks := tk } :=
      I.turnedNew (ch := [z, TI, TO, i1, i2]) (fun c o hb q => (sb.2 c (fun q' => hb (by simp [q']))).trans (hk c o (fun q' => hb (by simp [q'])) (fun q' => hb (by simp [q'])) (fun q' => hb (by simp [q'])) (fun q' => hb (by simp [q'])) q)) hf (Nat.le_refl _) new
    refine ⟨.ref s.heap.objs.size, _, I1, rfl, ⟨_, x, y, rfl, I.hok.fresh (Nat.le_refl _), rfl, fun l hl => by rw [Ik.inj I hl hqx]; exact hx, fun l hl => by rw [Ik.inj I hl hqy]; exact hy⟩, ⟨z'', ?_, ⟨u, u2, ?_⟩, ?_, ?_⟩, fun c hcm => ?_⟩
    · exact (sb.2 _ D.TIz).trans (hk _ _ D.TIz D.TITO D.TIi1 D.TIi2 hTI)
    · exact (sb.2 _ D.TOz).trans TO'
    · exact ik_at (k1' _ _ h1') fun o q => (sb.2 _ D.i1z).trans q
    · exact ik_at (k2' _ _ h2') fun o q => (sb.2 _ D.i2z).trans q
    · have hlt : c < s.heap.objs.size := by
        have e' : c = z ∨ c = TI ∨ c = TO ∨ c = i1 ∨ c = i2 := by simpa using hcm
        rcases e' with q | q | q | q | q
        · rw [q]; exact hzl
        · rw [q]; exact Heap.lt_size hTI
        · rw [q]; exact Heap.lt_size hTO
        · rw [q]; obtain ⟨_, e1, _⟩ := Ik.obj_at h1; exact Heap.lt_size e1
        · rw [q]; obtain ⟨_, e2, _⟩ := Ik.obj_at h2; exact Heap.lt_size e2
      rw [upd_ne (Nat.ne_of_lt hlt)]
      exact (hf c hcm).1
  done := by
    intro X hP hw hK hc i pins s σ H E I hf st hg
    subst hP hw hK
    obtain ⟨hz, hTI, ⟨x0, y0, hTO⟩, h1, h2⟩ := st
    obtain ⟨xs, ys, hqx, hqy, le1, le2, hend⟩ := hg
    obtain ⟨fp1, P1, S1, D1, st1, p1, k1', m1, f1⟩ := Ik.draws I hc hqx h1 (fun z => (D.far _ (.inl z)).2.2.2.1 rfl)
    obtain ⟨fp2, P2, S2, D2, st2, p2, k2', m2, f2⟩ := Ik.draws I hc hqy h2 (fun z => (D.far _ (.inr z)).2.2.2.2 rfl)
    exact wpAny_pyNext_zipD2_end (D.sep m1 m2 f1 f2) D1 D2 hz hTI hTO st1 st2 le1 le2 hend fun h' tk hk => ⟨rfl, I.turnedL (t' := tk) (ch := [z, TI, TO, i1, i2]) (fun c o hb q =>
      hk c o (fun q' => hb (by simp [q'])) (fun q' => hb (by simp [q'])) (fun q' => hb (by simp [q'])) (fun q' => hb (by simp [q'])) q) hf⟩
  self := fun A i s Q E st h => wpAny_pyIter_zip st.1 h
theorem ap5 {n : Nat} {k1 k2 : Ik} (l1 : ∀ b, k1.src b → b < n) (l2 : ∀ b, k2.src b → b < n) : ZAp (n + 4) (n + 2) (n + 3) n (n + 1) k1 k2 :=
  ⟨show ((n + 2 : Nat)) ≠ (n + 4 : Nat) by omega, show ((n + 3 : Nat)) ≠ (n + 4 : Nat) by omega, show ((n + 2 : Nat)) ≠ (n + 3 : Nat) by omega, show ((n + 2 : Nat)) ≠ (n : Nat) by omega, show ((n + 2 : Nat)) ≠ (n + 1 : Nat) by omega, show ((n + 3 : Nat)) ≠ (n : Nat) by omega,
    show ((n + 3 : Nat)) ≠ (n + 1 : Nat) by omega, show (n : Nat) ≠ (n + 4 : Nat) by omega, show ((n + 1 : Nat)) ≠ (n + 4 : Nat) by omega, show (n : Nat) ≠ (n + 1 : Nat) by omega, fun b h => by
    have : (show Nat from b) < n := h.elim (l1 b) (l2 b)
    exact ⟨show (show Nat from b) ≠ n + 4 by omega, show (show Nat from b) ≠ n + 2 by omega, show (show Nat from b) ≠ n + 3 by omega, show (show Nat from b) ≠ n by omega, show (show Nat from b) ≠ n + 1 by omega⟩⟩
def iZip2 (K : PySem.W.Frag) (ta : TA) : TI := fun σ H R => ta σ H fun vs H1 => ∃ (k1 k2 : Vk) (xs ys : List V), vs = [k1.val, k2.val] ∧ k1.has K H1 xs ∧ k2.has K H1 ys ∧ R (Itz2 K k1 k2) H1
theorem pi_zip2 {X : Cx} {e e2 : Expr} {ta : TA} {p pos tpos : Pos} {elts : List Expr} {kk : Nat} (hg : Gl X "zip") (hm : X.mg "zip" = none) (ha : PA X [e, e2] ta)
    (hs : starEach [e, e2] X.env = (false, eval e X.env) :: starEach [e2] X.env := by rfl) (hpl : (backTo pos (starEach [e2] X.env)).any (·.1) = false := by rfl) :
    PI X (.Tuple elts kk tpos) (.Call (.Name "zip" p) [e, e2] [] pos) (iZip2 X.K ta) := by
  refine ⟨fun pins s σ H R I h => ?_⟩
  refine Call_ (ld_blt I hg hm PyProof.Rows.boot_zip (PyProof.Rows.callWith_type1 (thn (ha.run pos pins s σ H _ I h) fun us s1 ⟨vs, H1, I1, r1, q1⟩ => ?_) hs hpl))
  obtain ⟨k1, k2, xs, ys, ex, hqx, hqy, q⟩ := q1
  subst ex
  cases r1 with
  | cons r rr =>
    cases rr with
    | cons r' rr =>
      cases rr
      obtain ⟨j1, e1, e1'⟩ := Vk.ik r
      obtain ⟨j2, e2, e2'⟩ := Vk.ik r'
      subst e1 e1' e2 e2'
      obtain ⟨Hh1, B1, b1⟩ := Ik.begins I1 hqx
      obtain ⟨Hh2, B2, b2⟩ := Ik.begins I1 hqy
      refine zip_begins2 B1 B2 b1 b2 fun h' hz hTI hTO h1 h2 hsz hk => wpAny_pyIter_zip hz ?_
      have I2 : Inv X pins σ H1 { s1 with heap := h' } := I1.kept (t' := s1.toks) hk
      refine ⟨s1.heap.objs.size + 4, [s1.heap.objs.size + 4, s1.heap.objs.size + 2, s1.heap.objs.size + 3, s1.heap.objs.size, s1.heap.objs.size + 1], _, _, H1, rfl, I2, turn_zip2 (ap5 (fun b hb => Ik.lt I1 hqx hb) (fun b hb => Ik.lt I1 hqy hb)), ⟨hz, hTI, ⟨_, _, hTO⟩, Ik.start h1, Ik.start h2⟩, fun c hcm => ?_, q⟩
      have e' : c = s1.heap.objs.size + 4 ∨ c = s1.heap.objs.size + 2 ∨ c = s1.heap.objs.size + 3 ∨ c = s1.heap.objs.size ∨ c = s1.heap.objs.size + 1 := by simpa using hcm
      have hle : s1.heap.objs.size ≤ c := by
        rcases e' with z | z | z | z | z
        · rw [z]; exact Nat.le_add_right _ _
        · rw [z]; exact Nat.le_add_right _ _
        · rw [z]; exact Nat.le_add_right _ _
        · rw [z]; exact Nat.le_refl _
        · rw [z]; exact Nat.le_add_right _ _
      exact I1.fpOk hle (I1.hok.fresh hle)

/-! ### enumerate -/
def Ite2 (K : PySem.W.Frag) (k : Vk) : It :=
  ⟨fun i H => ∃ (xs : List V) (x : V), k.has K H xs ∧ xs[i]? = some x, fun i H v H' => ∃ T x, v = .ref T ∧ H T = none ∧ H' = upd H T (.tup [.int (i : Nat), x]) ∧ ∀ xs, k.has K H xs → xs[i]? = some x, fun i H => ∃ xs : List V, k.has K H xs ∧ xs.length = i⟩
theorem turn_enum2 {P : Program} {w : World} {K : PySem.W.Frag} {elts : List Expr} {kk : Nat} {tpos : Pos} {k : Ik} {e it : Addr} (hne : e ≠ it) (far : ∀ b, k.src b → b ≠ e ∧ b ≠ it) :
    Turn P w K (.Tuple elts kk tpos) (Ite2 K k.vk) [e, it] e (fun i h => (∃ old, IsEnum h e it ((i : Nat) : Int) old) ∧ k.itr it i h) where
  mem := by simp
  obj := fun i h st b hb => by
    obtain ⟨⟨old, he⟩, h1⟩ := st
    have e' : b = e ∨ b = it := by simpa using hb
    rcases e' with z | z
    · rw [z]; exact ⟨_, he, fun v q => nomatch q⟩
    · rw [z]; exact Ik.obj_at h1
  keep := fun i h h' st q => let ⟨⟨old, he⟩, hi⟩ := st; ⟨⟨old, q e (by simp) _ he⟩, ik_at hi fun o z => q it (by simp) o z⟩
  item := by
    intro X hP hw hK hc i pins s σ H E I hf st hg
    subst hP hw hK
    obtain ⟨⟨old, he⟩, hit⟩ := st
    obtain ⟨xs, x, hq, hx⟩ := hg
    obtain ⟨fp, P1, S1, D1, st1, p1, k1', m1, f1⟩ := Ik.draws I hc hq hit (fun z => (far _ z).2 rfl)
    have hel : e < s.heap.objs.size := Heap.lt_size he
    have hil : it < s.heap.objs.size := by obtain ⟨_, q, _⟩ := Ik.obj_at hit; exact Heap.lt_size q
    have hef : e ∉ fp := fun h => by
      rcases f1 _ h with z | z
      · exact hne z
      · exact (far _ z).1 rfl
    refine wpAny_pyNext_enum_itemD D1 he st1 (List.getElem?_eq_some_iff.mp hx).1 hne hef fun u h' tk q1 ho hit' hT hsz hk => ?_
    obtain ⟨x', hx', ru⟩ := p1 _ _ q1
    rw [hx] at hx'; cases hx'
    refine ⟨_, rfl, wpAny_letOwnedTupleGo_enum (s := { s with heap := h', toks := tk + 1 }) ho fun h'' he' sb => ?_⟩
    have hT2 : h''.get? s.heap.objs.size = some { cls := .type "tuple", data := .seq #[.int i tk, u] } := (sb.2 _ (Nat.ne_of_gt hel)).trans hT
    have new : ObjOk X.prog X.w (upd H s.heap.objs.size (.tup [.int (i : Nat), x])) h'' s.heap.objs.size (.tup [.int (i : Nat), x]) :=
      ⟨by show 2 ≤ sizeLine; decide, [.int i tk, u], .cons ⟨_, rfl⟩ (.cons ru .nil), ⟨_, hT2, rfl, _, rfl⟩⟩
    have I1 : Inv X pins σ (upd H s.heap.objs.size (.tup [.int (i : Nat), x])) { s with heap := h'', toks := tk + 1 } :=
      I.turnedNew (ch := [e, it]) (fun b ob hb q => (sb.2 b (fun z => hb (by simp [z]))).trans (hk b ob (fun z => hb (by simp [z])) (fun z => hb (by simp [z])) q)) hf (Nat.le_refl _) new
    refine ⟨.ref s.heap.objs.size, _, I1, rfl, ⟨_, x, rfl, I.hok.fresh (Nat.le_refl _), rfl, fun ys hy => by rw [Ik.inj I hy hq]; exact hx⟩, ⟨⟨u, ?_⟩, ik_at (k1' _ _ hit') fun o q => (sb.2 it (Ne.symm hne)).trans q⟩, fun b hb => ?_⟩
    · have e1 : ((i + 1 : Nat) : Int) = (i : Int) + 1 := by omega
      rw [e1]; exact he'
    · have hb' : b < s.heap.objs.size := by
        have e' : b = e ∨ b = it := by simpa using hb
        rcases e' with z | z
        · rw [z]; exact hel
        · rw [z]; exact hil
      rw [upd_ne (Nat.ne_of_lt hb')]
      exact (hf b hb).1
  done := by
    intro X hP hw hK hc i pins s σ H E I hf st hg
    subst hP hw hK
    obtain ⟨⟨old, he⟩, hit⟩ := st
    obtain ⟨xs, hq, hx⟩ := hg
    subst hx
    obtain ⟨fp, P1, S1, D1, st1, p1, k1', m1, f1⟩ := Ik.draws I hc hq hit (fun z => (far _ z).2 rfl)
    obtain ⟨g0, g1, g2, g3, g4, g5⟩ := hf it (by simp)
    exact wpAny_pyNext_enum_endD D1 he st1 fun h' eb => ⟨rfl, I.turned (t' := s.toks) (fun b o hb q => eb b o hb q) g0 g1 g3 g4 g5⟩
  self := fun A i s Q E st h => let ⟨⟨_, he⟩, _⟩ := st; wpAny_pyIter_enum he h
set_option maxHeartbeats 1000000 in
theorem meets_enumerate_newB1 {v : Value} {o : Obj} {H : Heap → Prop} (Bg : Begins v o H) :
    Meets (Builtin.«enumerate.__new__» ⟨[.type "enumerate", v], []⟩) (fun _ R s => H s.heap ∧
      R (.ok (.ret (.ref (s.heap.push o).objs.size))) { s with heap := (s.heap.push o).push { cls := .type "enumerate", data := .fields #[.none, .bool false, .ref s.heap.objs.size, rawInt 0, .none, .none] } }) :=
  .of_wp fun prog w A R s h => by
    obtain ⟨hp, g, d, tk, os⟩ := s; obtain ⟨h1, h⟩ := h
    have hsub := sub_enumerate
    have q1 : ∀ {A' : Around} {E : Value → Shared → Prop} {Q : Value → Shared → Prop}, Q (.ref hp.objs.size) ⟨hp.push o, g, d, tk, os⟩ → wpAny (model prog w) A' (pyIter v) Q E ⟨hp, g, d, tk, os⟩ :=
      fun q => Bg.iter prog w _ _ ⟨hp, g, d, tk, os⟩ _ h1 q
    wp_walk using q1
    refine wpAny_stack_any fun st => wpAny_pure ?_
    split
    · rename_i c _ _ _ _ _
      cases (c == Value.type "enumerate")
      · wp_walk using q1
        exact ⟨_, rfl, h⟩
      · wp_walk using q1
        exact ⟨_, rfl, h⟩
    · wp_walk using q1
      exact ⟨_, rfl, h⟩
theorem enum_begins1 {prog : Program} {w : World} {A : Around} {E : Value → Shared → Prop} {s : Shared} {v : Value} {o : Obj} {H : Heap → Prop} {Q : Value → Shared → Prop} (Bg : Begins v o H) (h1 : H s.heap)
    (h : ∀ h', IsEnum h' (s.heap.objs.size + 1) s.heap.objs.size 0 .none → h'.get? s.heap.objs.size = some o → h'.objs.size = s.heap.objs.size + 2 →
      (∀ b o, s.heap.get? b = some o → h'.get? b = some o) → Q (.ref (s.heap.objs.size + 1)) { s with heap := h' }) :
    wpAny (model prog w) A (call (.type "enumerate") [v]) Q E s := by
  refine callType_new F.called_enumerate (by decide) (F.typeCall_enumerate_1 _) (F.newCall_enumerate_1 _) (fun obj => F.args_object_init_2 obj _) F.entry_enumerate_new
    (meets_enumerate_newB1 Bg) ⟨h1, ?_⟩
  have hz : (s.heap.push o).objs.size = s.heap.objs.size + 1 := Heap.size_push ..
  show _ ∧ _
  rw [hz]
  have he : IsEnum ((s.heap.push o).push { cls := .type "enumerate", data := .fields #[.none, .bool false, .ref s.heap.objs.size, rawInt 0, .none, .none] }) (s.heap.objs.size + 1) s.heap.objs.size 0 .none := by
    have := Heap.get?_push_size (s.heap.push o) (o := { cls := .type "enumerate", data := .fields #[.none, .bool false, .ref s.heap.objs.size, rawInt 0, .none, .none] }) rfl
    rw [hz] at this; exact this
  refine ⟨⟨_, he, rfl⟩, h _ he (Heap.get?_push_of_some _ (Heap.get?_push_size _ Bg.free)) (by rw [Heap.size_push, hz]) fun b o x => Heap.get?_push_of_some _ (Heap.get?_push_of_some _ x)⟩
def iEnum2 (K : PySem.W.Frag) (ta : TA) : TI := fun σ H R => ta σ H fun vs H1 => ∃ (k : Vk) (xs : List V), vs = [k.val] ∧ k.has K H1 xs ∧ R (Ite2 K k) H1
theorem pi_enum2 {X : Cx} {e : Expr} {ta : TA} {p pos tpos : Pos} {elts : List Expr} {kk : Nat} (hg : Gl X "enumerate") (hm : X.mg "enumerate" = none) (ha : PA X [e] ta) (hs : starEach [e] X.env = [(false, eval e X.env)] := by rfl) :
    PI X (.Tuple elts kk tpos) (.Call (.Name "enumerate" p) [e] [] pos) (iEnum2 X.K ta) := by
  refine ⟨fun pins s σ H R I h => ?_⟩
  refine Call_ (ld_blt I hg hm boot_enumerate (PyProof.Rows.callWith_type1 (thn (ha.run pos pins s σ H _ I h) fun us s1 ⟨vs, H1, I1, r1, q1⟩ => ?_) hs rfl))
  obtain ⟨k, xs, ex, hq, q⟩ := q1
  subst ex
  cases r1 with
  | cons r rr =>
    cases rr
    obtain ⟨j, e1, e1'⟩ := Vk.ik r
    subst e1 e1'
    obtain ⟨Hh, Bg, b1⟩ := Ik.begins I1 hq
    refine enum_begins1 Bg b1 fun h' he hit hsz hk => wpAny_pyIter_enum he ?_
    have I2 : Inv X pins σ H1 { s1 with heap := h' } := I1.kept (t' := s1.toks) hk
    refine ⟨s1.heap.objs.size + 1, [s1.heap.objs.size + 1, s1.heap.objs.size], _, _, H1, rfl, I2, turn_enum2 (k := j) (e := s1.heap.objs.size + 1) (it := s1.heap.objs.size) (Nat.succ_ne_self _) (fun b hb => ?_), ⟨⟨.none, he⟩, Ik.start hit⟩, fun b hb => ?_, q⟩
    · have := Ik.lt I1 hq hb
      exact ⟨Nat.ne_of_lt (Nat.lt_succ_of_lt this), Nat.ne_of_lt this⟩
    · have e' : b = s1.heap.objs.size + 1 ∨ b = s1.heap.objs.size := by simpa using hb
      have hle : s1.heap.objs.size ≤ b := by
        rcases e' with z | z
        · rw [z]; exact Nat.le_add_right _ _
        · rw [z]; exact Nat.le_refl _
      exact I1.fpOk hle (I1.hok.fresh hle)
end TT
end
section
set_option maxRecDepth 100000
set_option maxHeartbeats 4000000
/-! V4: more operators, built-ins and methods upon data. -/
namespace TT
open PySem PySem.Spec PyProof.Rows L2

theorem tuple_mul1 (l : Addr) (items : Array Value) (n : Nat) (dd : Option Addr) (sl : Array (Option Value)) (x : Int) (u : Tok) (c0 : (decide (x < -(2 ^ 63)) || decide (x ≥ 2 ^ 63)) = false) (c1 : (items.isEmpty || x == 1) = true) :
    Meets (Builtin.«tuple.__mul__» ⟨[.ref l, .int x u], []⟩) (fun _ R s => s.heap.get? l = some { cls := .type "tuple", dict := dd, data := .seq items n, slots := sl } ∧
      R (.ok (.ret (Value.ref l))) s) :=
  .of_wp fun prog w A R s h => by
    obtain ⟨hp, g, d, tk, os⟩ := s
    obtain ⟨hl, h⟩ := h
    have f1 := AutoSeq1.idx_int
    wp_walk using wpAny_loadPart' hl
    repeat (first
      | (refine wpAny_ite_false (decide_eq_false (by rw [c0]; exact Bool.false_ne_true)) ?_; wp_walk using wpAny_loadPart' hl)
      | (refine wpAny_ite_true (decide_eq_true c1) ?_; wp_walk using wpAny_loadPart' hl))
    exact ⟨_, rfl, h⟩
theorem tuple_mul0 (l : Addr) (items : Array Value) (n : Nat) (dd : Option Addr) (sl : Array (Option Value)) (x : Int) (u : Tok) (c0 : (decide (x < -(2 ^ 63)) || decide (x ≥ 2 ^ 63)) = false) (c1 : (items.isEmpty || x == 1) = false) (c2 : (decide (x ≤ 0) || items.isEmpty) = true) :
    Meets (Builtin.«tuple.__mul__» ⟨[.ref l, .int x u], []⟩) (fun _ R s => s.heap.get? l = some { cls := .type "tuple", dict := dd, data := .seq items n, slots := sl } ∧
      R (.ok (.ret (Value.ref s.heap.objs.size))) { s with heap := s.heap.push { cls := Value.type "tuple", data := Data.seq #[] }, toks := s.toks }) :=
  .of_wp fun prog w A R s h => by
    obtain ⟨hp, g, d, tk, os⟩ := s
    obtain ⟨hl, h⟩ := h
    have f1 := AutoSeq1.idx_int
    wp_walk using wpAny_loadPart' hl
    repeat (first
      | (refine wpAny_ite_false (decide_eq_false (by rw [c0]; exact Bool.false_ne_true)) ?_; wp_walk using wpAny_loadPart' hl)
      | (refine wpAny_ite_false (decide_eq_false (by rw [c1]; exact Bool.false_ne_true)) ?_; wp_walk using wpAny_loadPart' hl)
      | (refine wpAny_ite_true (decide_eq_true c2) ?_; wp_walk using wpAny_loadPart' hl))
    exact ⟨_, rfl, h⟩

section
variable {X : Cx} {T : Tx} {B : Bs}
theorem sz16 : (16777216 : Nat) ≤ sizeLine := by rw [sizeLine_eq]; omega
/-- text * int -/
theorem op_repS : OpR X (binaryOp .Mult) (fun x y H Q => ∃ i j, x = .str i ∧ y = .int j ∧ MulOk i j ∧ Q (.str (Txt.mul i j)) H) := by
  intro pins s σ H x y v u Q I rx ry h
  obtain ⟨i, j, rfl, rfl, ok, q⟩ := h
  obtain ⟨t, rfl⟩ := rx
  obtain ⟨t', rfl⟩ := ry
  exact SB.mul ok fun t2 k => ⟨.str (Txt.mul i j), H, I.tok k, ⟨_, rfl⟩, q⟩
/-- tuple * int -/
theorem op_repU (hK : X.K = T.K) {pins : List (Addr × Obj)} {s : Shared} {σ : St} {H : Hp} {a : Addr} {xs : List V} {k : Int} {t : Tok} {Q : VK} (I : Inv X pins σ H s) (hT : SqU H a xs) (h1 : -1000000 ≤ k) (h2 : k ≤ 1000) (hz : xs.length ≤ 1000)
    (q1 : k = 1 ∨ xs = [] → Q (.ref a) H) (q2 : ∀ p, H p = none → Q (.ref p) (upd H p (.tup (List.replicate k.toNat xs).flatten))) :
    wpAny (model X.prog X.w) X.A (binaryOp .Mult (.ref a) (.int k t)) (EP X pins σ Q) X.xe s := by
  obtain ⟨its, r, ⟨⟨cls, dd, data, sl⟩, ho, hc, n, hd⟩, hs⟩ := I.tuple hT.sq
  simp only at hc hd
  subst hc hd
  have hle : its.length = xs.length := r.length.symm
  have hsz0 : its.toArray.size = xs.length := by rw [List.size_toArray, hle]
  have c0 : (decide (k < -(2 ^ 63)) || decide (k ≥ 2 ^ 63)) = false := by
    rw [decide_eq_false (by omega), decide_eq_false (by omega)] <;> rfl
  by_cases hone : k = 1 ∨ xs = []
  · have c1 : (its.toArray.isEmpty || k == 1) = true := by
      rcases hone with rfl | rfl
      · simp
      · have : its = [] := List.eq_nil_of_length_eq_zero hle
        subst this
        rfl
    refine wpAny_binaryOp_repeat_ref (T := "tuple") (U := "int") (by decide) ⟨_, ho, rfl⟩ (fun s' => typeIs_int s' k t) noFill_tuple_mul F.fills_int_mul F.slot_int_rmul repeat_tuple F.slot_int_index.lookup
      (call_meets F.slot_int_rmul (typeIs_int s k t) F.entry_int_rmul (F.args_int_rmul_2 _ _) (int_rmul_tuple k t a its.toArray n dd sl)
        ⟨ho, rfl, ⟨_, ho, rfl⟩, call_meets F.slot_tuple_mul ⟨_, ho, rfl⟩ F.entry_tuple_mul (F.args_tuple_mul_2 _ _) (tuple_mul1 a its.toArray n dd sl k t c0 c1) ⟨ho, ?_⟩⟩)
    exact ⟨.ref a, H, I, rfl, q1 hone⟩
  · have hk : k ≠ 1 := fun e => hone (.inl e)
    have hx : xs ≠ [] := fun e => hone (.inr e)
    have hn : its ≠ [] := fun e => hx (by rw [e] at hle; exact List.eq_nil_of_length_eq_zero hle.symm)
    have hi : its.toArray.isEmpty = false := by
      cases its with
      | nil => exact absurd rfl hn
      | cons a b => rfl
    have c1 : (its.toArray.isEmpty || k == 1) = false := by
      rw [hi, Bool.false_or]
      exact beq_eq_false_iff_ne.mpr hk
    by_cases hp : k ≤ 0
    · have c2 : (decide (k ≤ 0) || its.toArray.isEmpty) = true := by
        rw [hi, Bool.or_false]
        exact decide_eq_true hp
      refine wpAny_binaryOp_repeat_ref (T := "tuple") (U := "int") (by decide) ⟨_, ho, rfl⟩ (fun s' => typeIs_int s' k t) noFill_tuple_mul F.fills_int_mul F.slot_int_rmul repeat_tuple F.slot_int_index.lookup
        (call_meets F.slot_int_rmul (typeIs_int s k t) F.entry_int_rmul (F.args_int_rmul_2 _ _) (int_rmul_tuple k t a its.toArray n dd sl)
          ⟨ho, rfl, ⟨_, ho, rfl⟩, call_meets F.slot_tuple_mul ⟨_, ho, rfl⟩ F.entry_tuple_mul (F.args_tuple_mul_2 _ _) (tuple_mul0 a its.toArray n dd sl k t c0 c1 c2) ⟨ho, ?_⟩⟩)
      have e0 : (List.replicate k.toNat xs).flatten = [] := by
        have : k.toNat = 0 := by omega
        rw [this]; rfl
      have q := q2 _ (I.hok.fresh (Nat.le_refl _))
      rw [e0] at q
      exact ⟨.ref s.heap.objs.size, _, I.laid (t' := s.toks) (o := .tup []) (fun b ob q => Heap.get?_push_of_some _ q) (Nat.le_refl _) ⟨Nat.zero_le _, [], .nil, IsTup.new _ _⟩, rfl, q⟩
    · exact op_repT pins s σ H _ _ _ _ Q I (show RelV (.ref a) (.ref a) from rfl) (show RelV (.int k) (.int k t) from ⟨_, rfl⟩) ⟨a, k, xs, rfl, rfl, hT.sq, hx, by omega, h2, hz, q2⟩
def fMulX : Sl → Sl → Option Sl
  | .fr (.str s), .fr (.int n) => if -1000000 ≤ n ∧ n ≤ 1000000 ∧ s.length * n.toNat ≤ 1000000 then some (.fr (.str (Txt.mul s n))) else none
  | .fr (.tup ds), .fr (.int n) => if -1000000 ≤ n ∧ n ≤ 1000 ∧ ds.length ≤ 1000 then some (.fr (.tup (List.replicate n.toNat ds).flatten)) else none
  | .own ds, .fr (.int n) => if -1000000 ≤ n ∧ n ≤ 1000000 ∧ ds.length * n.toNat ≤ 1000000 then some (.own (List.replicate n.toNat ds).flatten) else none
  | a, b => fMul a b
theorem mulOk_of {s : Str} {n : Int} (h : -1000000 ≤ n ∧ n ≤ 1000000 ∧ s.length * n.toNat ≤ 1000000) : MulOk s n := by
  obtain ⟨h1, h2, h3⟩ := h
  refine ⟨by rw [decide_eq_false (by omega), decide_eq_false (by omega)] <;> rfl, fun hn _ => ?_, fun hn _ => ?_⟩
  · have h4 : s.length ≤ 1000000 := by
      have : 1 ≤ n.toNat := by omega
      have := Nat.le_mul_of_pos_right s.length this
      omega
    have h5 : (1000000 : Int) ≤ (2 ^ 63 - 1) / n := (Int.le_ediv_iff_mul_le (by omega)).mpr (by omega)
    omega
  · unfold Builtin.Str.tooLong
    exact decide_eq_false (by rw [sizeLine_eq]; omega)
theorem Reps.rep {H : Hp} {ds : List D} {vs : List V} (h : Reps T H ds vs) : ∀ n : Nat, Reps T H (List.replicate n ds).flatten (List.replicate n vs).flatten
  | 0 => by rw [List.replicate_zero, List.replicate_zero, List.flatten_nil, List.flatten_nil]; exact rfl
  | n + 1 => by
    rw [List.replicate_succ, List.replicate_succ, List.flatten_cons, List.flatten_cons]
    exact h.append (Reps.rep h n)
theorem op_fMulX (hK : X.K = T.K) : OpR X (binaryOp .Mult) (rB0 T B.h fMulX) := by
  rintro pins s σ H x y v u Q I rx ry ⟨a, b, z, ra, rb, e, k⟩
  unfold fMulX at e
  split at e
  · split at e
    · rename_i hz
      cases e
      cases ra; cases rb
      exact op_repS pins s σ H _ _ v u Q I rx ry ⟨_, _, rfl, rfl, mulOk_of hz, k _ H Same.refl rfl⟩
    · cases e
  · split at e
    · rename_i ds n hz
      cases e
      obtain ⟨p, vs, rfl, hp, hr⟩ := w_tup ra rfl
      cases rb
      obtain rfl : v = Value.ref p := rx
      obtain ⟨t, rfl⟩ := ry
      refine op_repU hK I hp hz.1 hz.2.1 (by rw [← hr.length]; exact hz.2.2) (fun h1 => ?_) fun w hw => k _ _ (Same.upd hw) (v_tup hw (Reps.rep hr _))
      refine k _ H Same.refl ⟨p, vs, rfl, hp, ?_⟩
      rcases h1 with rfl | rfl
      · simpa using hr
      · cases ds with
        | nil => simpa using hr
        | cons d ds => obtain ⟨_, _, e3, _⟩ := hr; cases e3
    · cases e
  · split at e
    · rename_i ds n hz
      cases e
      obtain ⟨p, vs, rfl, hp, hr⟩ := ra
      cases rb
      exact op_rep pins s σ H _ _ v u Q I rx ry ⟨p, _, vs, rfl, rfl, hp, by omega, by omega, by rw [← hr.length, sizeLine_eq]; omega, fun w hw => k _ _ (Same.upd hw) (v_own hw (Reps.rep hr _))⟩
    · cases e
  · exact op_fMul pins s σ H _ _ v u Q I rx ry ⟨_, _, z, ra, rb, e, k⟩
/-! ### the less, the greater of two -/
def bMin2 : List Sl → Option Sl
  | [.fr (.int i), .fr (.int j)] => some (.fr (.int (if j < i then j else i)))
  | _ => none
def bMax2 : List Sl → Option Sl
  | [.fr (.int i), .fr (.int j)] => some (.fr (.int (if j > i then j else i)))
  | _ => none
theorem two_v {H : Hp} {a b : Sl} {xs : List V} (h : Paired (SlW T B.h H) [a, b] xs) : ∃ x y, xs = [x, y] ∧ SlW T B.h H a x ∧ SlW T B.h H b y := by
  cases h with
  | cons r rr =>
    obtain ⟨y, rfl, ry⟩ := one_v rr
    exact ⟨_, _, rfl, r, ry⟩
theorem cr_bMin2 (hc : X.calm = true) : CallR X (.builtin "min") (rC T B.h bMin2) := by
  rintro pins s σ H xs us Q I r ⟨as, z, rs, e, k⟩
  unfold bMin2 at e
  split at e
  · cases e
    obtain ⟨x, y, rfl, rx, ry⟩ := two_v rs
    cases rx; cases ry
    exact call_min2 hc pins s σ H _ us Q I r ⟨_, _, rfl, k _ H Same.refl rfl⟩
  · cases e
theorem cr_bMax2 (hc : X.calm = true) : CallR X (.builtin "max") (rC T B.h bMax2) := by
  rintro pins s σ H xs us Q I r ⟨as, z, rs, e, k⟩
  unfold bMax2 at e
  split at e
  · cases e
    obtain ⟨x, y, rfl, rx, ry⟩ := two_v rs
    cases rx; cases ry
    exact call_max2 hc pins s σ H _ us Q I r ⟨_, _, rfl, k _ H Same.refl rfl⟩
  · cases e
/-- int of a text, too -/
def bIntX : List Sl → Option Sl
  | [.fr (.str s)] => if s.length ≤ 640 then (PySem.intText? s).map fun n => .fr (.int n) else none
  | l => bInt l
theorem cr_bIntX : CallR X (.type "int") (rC T B.h bIntX) := by
  rintro pins s σ H xs us Q I r ⟨as, z, rs, e, k⟩
  unfold bIntX at e
  split at e
  · split at e
    · rename_i hz
      obtain ⟨n, e1, rfl⟩ := Option.map_eq_some_iff.mp e
      obtain ⟨x, rfl, rx⟩ := one_v rs
      cases rx
      exact call_int_str pins s σ H _ us Q I r ⟨_, n, rfl, e1, hz, k _ H Same.refl rfl⟩
    · cases e
  · exact cr_bInt pins s σ H xs us Q I r ⟨_, z, rs, e, k⟩
/-! ### methods of texts -/
theorem reps_str {H : Hp} : ∀ ys : List Str, Reps T H (ys.map D.str) (ys.map V.str)
  | [] => rfl
  | y :: ys => ⟨_, _, rfl, rfl, reps_str ys⟩
def mSplit : Sl → List Sl → Option Sl
  | .fr (.str a), [.fr (.str b)] => if 0 < b.length ∧ a.length ≤ 1000000 then some (.own ((Txt.split a b).map D.str)) else none
  | _, _ => none
def mStarts : Sl → List Sl → Option Sl
  | .fr (.str a), [.fr (.str b)] => some (.fr (.bl (Txt.startswith a b)))
  | _, _ => none
def mStrip : Sl → List Sl → Option Sl
  | .fr (.str a), [.fr (.str b)] => if a.length ≤ 1000000 then some (.fr (.str (Txt.stripChars a b))) else none
  | _, _ => none
theorem mt_mSplit : MtR X "str.split" (rM T B.h mSplit) := by
  rintro pins s σ H x xs v us Q I rx rxs ⟨a, as, z, ra, ras, e, k⟩
  unfold mSplit at e
  split at e
  · split at e
    · rename_i hz
      cases e
      obtain ⟨y, rfl, ry⟩ := one_v ras
      cases ra; cases ry
      refine mt_split pins s σ H _ _ v us Q I rx rxs ⟨_, _, rfl, rfl, beq_eq_false_iff_ne.mpr (by omega), by rw [sizeLine_eq]; omega, fun p hp => k _ _ (Same.upd hp) (v_own hp (reps_str _))⟩
    · cases e
  · cases e
theorem mt_mStarts : MtR X "str.startswith" (rM T B.h mStarts) := by
  rintro pins s σ H x xs v us Q I rx rxs ⟨a, as, z, ra, ras, e, k⟩
  unfold mStarts at e
  split at e
  · cases e
    obtain ⟨y, rfl, ry⟩ := one_v ras
    cases ra; cases ry
    exact mt_startswith pins s σ H _ _ v us Q I rx rxs ⟨_, _, rfl, rfl, k _ H Same.refl rfl⟩
  · cases e
theorem mt_mStrip : MtR X "str.strip" (rM T B.h mStrip) := by
  rintro pins s σ H x xs v us Q I rx rxs ⟨a, as, z, ra, ras, e, k⟩
  unfold mStrip at e
  split at e
  · split at e
    · rename_i hz
      cases e
      obtain ⟨y, rfl, ry⟩ := one_v ras
      cases ra; cases ry
      exact mt_stripChars pins s σ H _ _ v us Q I rx rxs ⟨_, _, rfl, rfl, by rw [sizeLine_eq]; omega, k _ H Same.refl rfl⟩
    · cases e
  · cases e
end
section
variable {X : Cx} {F : Fx} {N : List Str} {sc : Scope} {W : WX} {B : Bs} {k : Nat} {ea eb : Expr} {a b : Ev Sl} {pos : Pos}
theorem g_mulX (G : Gx X F N sc) (ha : PE X ea (tE F.T W B a)) (hb : PE X eb (tE F.T W B b)) : PE X (.BinOp ea .Mult eb pos) (tE F.T W B (sB fMulX a b)) := pe_sB (op_fMulX G.K) ha hb
end
end TT
end
section
set_option maxRecDepth 100000
set_option maxHeartbeats 8000000
/-! U15: len(set(..)) of texts. -/
namespace TT
open PySem PySem.Spec PyProof.Rows L2
/-- a text put to those met -/
def put1 (σ : List Str) (x : Str) : List Str := if σ.any (· == x) then σ else σ ++ [x]
def met (xs : List Str) : List Str := xs.foldl put1 []
def fLenSet (a : Sl) : Option Sl := match asL a with
  | some ds => (match strsOf ds with
    | some ss => if ss.length < 4000 then some (.fr (.int ((met ss).length : Nat))) else none
    | none => none)
  | none => none
theorem met_take {xs : List Str} {i : Nat} (h : i < xs.length) : met (xs.take (i + 1)) = put1 (met (xs.take i)) (xs.getD i "") := by
  unfold met
  rw [List.take_add_one, List.getElem?_eq_getElem h, List.foldl_append, List.getD_eq_getElem?_getD, List.getElem?_eq_getElem h]
  rfl
theorem put1_any {σ : List Str} {x k : Str} : (put1 σ x).any (· == k) = (σ.any (· == k) || decide (k = x)) := by
  unfold put1
  split
  · rename_i h
    by_cases e : k = x
    · rw [e, h]; rfl
    · simp [e]
  · rw [List.any_append]
    by_cases e : k = x
    · simp [e]
    · have e2 : (x == k) = false := beq_eq_false_iff_ne.mpr fun z => e z.symm
      simp [e, e2]
theorem put1_len {σ : List Str} {x : Str} : (put1 σ x).length = if σ.any (· == x) then σ.length else σ.length + 1 := by
  unfold put1
  split <;> simp
theorem met_le {xs : List Str} : (met xs).length ≤ xs.length := by
  have key : ∀ (l σ : List Str), (l.foldl put1 σ).length ≤ σ.length + l.length := fun l => by
    induction l with
    | nil => intro σ; simp
    | cons x l ih =>
      intro σ
      have h1 := ih (put1 σ x)
      have h2 : (put1 σ x).length ≤ σ.length + 1 := by rw [put1_len]; split <;> omega
      simp only [List.foldl_cons, List.length_cons]
      omega
  have := key xs []
  unfold met
  simpa using this
/-- the set at S holds the texts met -/
def Holds (P : Program) (w : World) (h : Heap) (S : Addr) (xs : List Str) : Prop := h.SetOf (PySem.strKind P w) S (fun k => (met xs).any (· == k)) (met xs).length
theorem Holds.at_ {P : Program} {w : World} {h h' : Heap} {S : Addr} {xs : List Str} (q : Holds P w h S xs) (k : ∀ o, h.get? S = some o → h'.get? S = some o) : Holds P w h' S xs := by
  obtain ⟨o, es, ep, t, e, r⟩ := q
  exact ⟨o, es, ep, t, k o e, r⟩
section
variable {P : Program} {w : World} {A : Around} {R : Result → Shared → Prop} {I : Addr} {fp wr : List Addr} {G : Array GenState → Array GenState → Prop} {V0 : Nat → Value → Prop} {St : Nat → Shared → Prop}
theorem update_strs {xs : List Str} {S : Addr} (walk : WalksS P w A.in1 I fp wr G xs.length V0 St) (off : S ∉ fp) (val : ∀ j u, V0 j u → ∃ t, u = .str (xs.getD j "") t) (few : xs.length + 1 < scanBound) :
    ∀ (m i : Nat) (s : Shared), i + m = xs.length → St i s → Holds P w s.heap S (xs.take i) → (∀ s2, Moved (S :: wr) G s s2 → Holds P w s2.heap S xs → R (.ok (.ret .none)) s2) →
      codeAny (model P w) A (.builtin "set.update.loop" ⟨[.ref S, .ref I], []⟩) R s
  | 0, i, s, e, st, hd, k => by
    have ei : i = xs.length := by omega
    refine codeAny_builtin PyProof.Rows.F.entry_set_update_loop ?_
    rw [Around.under_plainId PyProof.Rows.F.plain_set_update_loop _]
    unfold Builtin.«set.update.loop»
    rw [ei] at st hd
    refine wpAny_bind (walk.done s _ _ st fun s2 mv => ?_)
    refine wpAny_pure (k s2 (mv.mono fun b hb => .tail _ hb) ?_)
    rw [List.take_length] at hd
    exact hd.at_ fun o q => mv.heap S o (fun z => off (walk.sub S z)) q
  | m + 1, i, s, e, st, hd, k => by
    have lt : i < xs.length := by omega
    refine codeAny_builtin PyProof.Rows.F.entry_set_update_loop ?_
    rw [Around.under_plainId PyProof.Rows.F.plain_set_update_loop _]
    unfold Builtin.«set.update.loop»
    refine wpAny_bind (walk.item i s _ _ lt st fun u s2 hu st2 mv => ?_)
    obtain ⟨t, rfl⟩ := val i u hu
    have hd2 : Holds P w s2.heap S (xs.take i) := hd.at_ fun o q => mv.heap S o (fun z => off (walk.sub S z)) q
    refine wpAny_bind (wpAny_holding ?_)
    unfold setAdd
    refine wpAny_holding (wpAny_bind ((PySem.strKind P w).pyHash (k := xs.getD i "") (strKind_is _ _ _ _) ?_))
    have room : (met (xs.take i)).length + 1 < scanBound := by
      have h1 := met_le (xs := xs.take i)
      have h2 : (xs.take i).length ≤ xs.length := by rw [List.length_take]; exact Nat.min_le_right _ _
      omega
    refine wpAny_setAddHashed_of (knd := PySem.strKind P w) (s := { s2 with toks := s2.toks + 1 }) (strKind_is _ _ _ _) rfl hd2 room fun h3 same add => ?_
    have hd3 : Holds P w h3 S (xs.take (i + 1)) := by
      unfold Holds
      rw [met_take lt]
      exact SetOf_congr add (fun k => put1_any.symm) put1_len.symm
    have st3 : St (i + 1) { s2 with heap := h3, toks := s2.toks + 1 } := walk.frame _ s2 _ _ st2 (Nat.le_succ _) fun b hb o q => (same.2 b fun z => off (z ▸ hb)).trans q
    refine wpAny_pure ⟨plainId_quiet PyProof.Rows.F.plain_set_update_loop _, update_strs walk off val few m (i + 1) _ (by omega) st3 hd3 fun s4 mv4 hd4 => k s4 ?_ hd4⟩
    refine Moved.trans walk.gtrans ((mv.mono fun b hb => .tail _ hb).then_heap (Nat.le_succ _) fun b o nb q => ?_) mv4
    exact (same.2 b fun z => nb (z ▸ .head _)).trans q
end
theorem str_nth : ∀ {us : List Value} {xs : List Str}, PyProof.Rows.StrsAre us xs → ∀ {j : Nat} {u : Value}, us[j]? = some u → ∃ t, u = .str (xs.getD j "") t
  | _, _, .nil, j, u, e => by simp at e
  | _, _, .cons y t r, 0, u, e => by simp at e; exact ⟨t, by rw [← e]; rfl⟩
  | _, _, .cons y t r, j + 1, u, e => by
    obtain ⟨t2, q⟩ := str_nth r (j := j) (by simpa using e)
    exact ⟨t2, by rw [q]; rfl⟩
/-- an empty set -/
def set0 (led : Bool) : Obj := { cls := .type "set", dict := none, data := .set #[] 0 (.fresh 0 0 led) }
section
variable {P : Program} {w : World} {A : Around} {E : Value → Shared → Prop} {s : Shared}
/-- the set's own making by a list: behind __init__ -/
theorem init_strs {l : Addr} {items : Array Value} {xs : List Str} {led : Bool} {Q : Value → Shared → Prop} (hh : A.handled = none) (hl : s.heap.IsList l items) (hi : PyProof.Rows.StrsAre items.toList xs) (few : xs.length + 1 < scanBound)
    (k : ∀ (h2 : Heap) (tk : Nat), Holds P w h2 s.heap.objs.size xs → (∀ b o, b < s.heap.objs.size → s.heap.get? b = some o → h2.get? b = some o) → Q .none { s with heap := h2, toks := tk }) :
    codeAny (model P w) A (.call (.builtin "set.__init__") ⟨[.ref s.heap.objs.size, .ref l], []⟩) (wants Q E) { s with heap := s.heap.push (set0 led) } := by
  have own : (s.heap.push (set0 led)).get? s.heap.objs.size = some (set0 led) := Heap.get?_push_size _ rfl
  have isSet : Shared.TypeIs { s with heap := s.heap.push (set0 led) } (.ref s.heap.objs.size) "set" := ⟨_, own, rfl⟩
  have lt : l < s.heap.objs.size := by obtain ⟨o, e, _⟩ := hl; exact Heap.lt_size e
  have len : xs.length = items.size := by rw [← StrsAre.len_eq hi, Array.length_toList]
  refine codeAny_call_builtin PySem.F.called_set.init.plain PySem.F.entry_set_init (check_set_init_1 isSet ?_)
  obtain ⟨ol, hol, hcl, nl, hdl⟩ := hl
  obtain ⟨oc, od, oda, osl⟩ := ol
  dsimp only at hcl hdl
  subst hcl hdl
  have there : (s.heap.push (set0 led)).get? l = some { cls := .type "list", dict := od, data := .seq items nl, slots := osl } := Heap.get?_push_of_some _ hol
  have isL : (s.heap.push (set0 led)).IsList l items := ⟨_, there, rfl, nl, rfl⟩
  have n1 := PySem.F.sub_list_set
  have n2 := PySem.F.sub_list_frozenset
  have n3 : (Value.type "list" == Value.type "dict") = false := by decide
  unfold Builtin.«set.__init__» noKeywords Builtin.Frozenset.updateFrom
  generalize ePI : pyIter = PI
  wp_walk
  subst ePI
  refine wpAny_pyIter_list isL (wpAny_bind (wpAny_runValue ?_))
  have calm : A.in1.in1.handled = none := by simp [hh]
  have size1 : (s.heap.push (set0 led)).objs.size = s.heap.objs.size + 1 := Heap.size_push ..
  have ne1 : l ≠ (s.heap.push (set0 led)).objs.size := by rw [size1]; exact Nat.ne_of_lt (Nat.lt_succ_of_lt lt)
  have off : s.heap.objs.size ∉ [(s.heap.push (set0 led)).objs.size, l] := by
    intro z
    rcases List.mem_cons.mp z with z | z
    · rw [size1] at z; exact absurd z (Nat.ne_of_lt (Nat.lt_succ_self _))
    · exact absurd (List.mem_singleton.mp z) (Nat.ne_of_gt lt)
  have W0 := (Walks.list (prog := P) (w := w) calm (s.heap.push (set0 led)).objs.size l ne1 items).toS
  rw [← len] at W0
  refine update_strs (xs := xs) W0 off (fun j u hu => ?_) few xs.length 0 _ (Nat.zero_add _) ?st ?hd fun s2 mv hd => ?go
  case st => exact ⟨⟨_, Heap.get?_push_size _ rfl, rfl, rfl⟩, isL.push _⟩
  · obtain ⟨t, e⟩ := str_nth hi (j := j) (u := u) (by rw [Array.getElem?_toList]; exact hu)
    exact ⟨t, e⟩
  case hd =>
    have q : Heap.get? _ s.heap.objs.size = some (set0 led) := Heap.get?_push_of_some { cls := .type "list_iterator", data := .fields #[.ref l, .int 0 0] } own
    exact SetOf_congr ((PyProof.Rows.setObjOf_fresh (knd := PySem.strKind P w) led).setOf q (by unfold scanBound; omega)) (fun _ => rfl) rfl
  case go =>
    obtain ⟨h2, g2, d2, t2, o2⟩ := s2
    obtain ⟨mh, mg, md, mo, _⟩ := mv
    cases (show g2 = s.gens from mg); cases (show d2 = s.drawn from md); cases (show o2 = s.os from mo)
    refine wpAny_pure (wpAny_pure (k h2 t2 hd fun b o hb q => mh b o ?_ (Heap.get?_push_of_some _ (Heap.get?_push_of_some _ q))))
    intro z
    rcases List.mem_cons.mp z with z | z
    · exact absurd z (Nat.ne_of_lt hb)
    · rcases List.mem_cons.mp z with z | z
      · rw [size1] at z; exact absurd z (Nat.ne_of_lt (Nat.lt_succ_of_lt hb))
      · cases z
/-- set(l) -/
theorem call_strs {l : Addr} {items : Array Value} {xs : List Str} {Q : Value → Shared → Prop} (hh : A.handled = none) (hl : s.heap.IsList l items) (hi : PyProof.Rows.StrsAre items.toList xs) (few : xs.length + 1 < scanBound)
    (k : ∀ (h2 : Heap) (tk : Nat), Holds P w h2 s.heap.objs.size xs → (∀ b o, b < s.heap.objs.size → s.heap.get? b = some o → h2.get? b = some o) → Q (.ref s.heap.objs.size) { s with heap := h2, toks := tk }) : wpAny (model P w) A (call (.type "set") [.ref l]) Q E s := by
  obtain ⟨c, tl, m0⟩ := PySem.F.called_set.mro
  have m1 := PySem.F.called_set.made
  have m2 := PySem.F.called_set.sub
  have m3 := PySem.F.called_set.notType
  have m4 := PySem.F.called_set.canCreate
  have m5 := PySem.F.typeCall_set_1 (.ref l)
  refine wpAny_call (codeAny_of_tree ?_)
  show wpAny _ _ (callAny (.type "set") _) _ _ _
  refine wpAny_pure ⟨Code.quiet_builtin _ (by decide +kernel), codeAny_builtin PySem.F.entry_type_call ?_⟩
  rw [Around.under_plain (weight_type_call_type "set" [.ref l] []) rfl]
  repeat (any_goals (first | assumption | wp_step))
  refine codeAny_mono (code_set_new_1 (.ref l) (E := E) (Q₁ := fun o t => ∃ led : Bool, o = .ref s.heap.objs.size ∧ t = { s with heap := s.heap.push (set0 led) }) fun led => ⟨led, rfl, rfl⟩) fun r s1 hr => ?_
  match r, hr with
  | .error e, hr => exact hr
  | .ok .next, hr => exact hr.elim
  | .ok .brk, hr => exact hr.elim
  | .ok .cont, hr => exact hr.elim
  | .ok (.ret o), hr =>
    obtain ⟨led, rfl, rfl⟩ := hr
    have own : (s.heap.push (set0 led)).get? s.heap.objs.size = some (set0 led) := Heap.get?_push_size _ rfl
    have isSet : Shared.TypeIs { s with heap := s.heap.push (set0 led) } (.ref s.heap.objs.size) "set" := ⟨_, own, rfl⟩
    have m6 := PySem.F.called_set.init.lookup
    have m7 := PySem.F.called_set.init.bind (.ref s.heap.objs.size)
    repeat (any_goals (first | assumption | wp_step))
    refine codeAny_mono (init_strs (E := E) (Q := fun v t => v = .none ∧ ∃ h2 tk, t = { s with heap := h2, toks := tk } ∧ Holds P w h2 s.heap.objs.size xs ∧ ∀ b o, b < s.heap.objs.size → s.heap.get? b = some o → h2.get? b = some o) hh hl hi few
      fun h2 tk hd old => ⟨rfl, h2, tk, rfl, hd, old⟩) fun r2 s2 hr2 => ?_
    match r2, hr2 with
    | .error e, hr2 => exact hr2
    | .ok .next, hr2 => exact hr2.elim
    | .ok .brk, hr2 => exact hr2.elim
    | .ok .cont, hr2 => exact hr2.elim
    | .ok (.ret v), hr2 =>
      obtain ⟨rfl, h2, tk, rfl, hd, old⟩ := hr2
      repeat (any_goals (first | assumption | wp_step))
      exact k h2 tk hd old
end
section
variable {X : Cx} {F : Fx} {N : List Str} {sc : Scope} {W : WX} {B : Bs} {k : Nat}
theorem strs_are : ∀ {ys : List Str} {us : List Value}, Vals (ys.map V.str) us → PyProof.Rows.StrsAre us ys
  | [], _, .nil => .nil
  | y :: ys, _, .cons r t => by
    obtain ⟨k, rfl⟩ := r
    exact .cons y k (strs_are t)
theorem g_lenSet (G : Gx X F N sc) (r : Gr X k) {ea : Expr} {a : Ev Sl} {p p2 q pos : Pos} (hl : F.T.mg "len" = none) (hs : F.T.mg "set" = none) (ha : PE X ea (tE F.T W B a)) (g1 : glB sc "len" = true := by rfl) (g2 : glB sc "set" = true := by rfl)
    (na : starEach [ea] X.env = (false, eval ea X.env) :: starEach [] X.env := by rfl) : PE X (.Call (.Name "len" p) [.Call (.Name "set" p2) [ea] [] q] [] pos) (tE F.T W B (sU fLenSet a)) := by
  obtain ⟨l1, l2, l3⟩ := glB_ok G g1
  obtain ⟨s1, s2, s3⟩ := glB_ok G g2
  refine ⟨fun pins s σ H Q I h => ?_⟩
  refine Call_ (ld_blt I l1 (by rw [G.mg]; exact hl) boot_len (PyProof.Rows.callWith_builtin1 (PyProof.Rows.args_cons ?_ rfl) rfl rfl) l3 l2)
  refine Call_ (ld_blt I s1 (by rw [G.mg]; exact hs) boot_set ?_ s3 s2)
  refine PyProof.Rows.callWith_type1 (PyProof.Rows.args_cons (thn (ha.run pins s σ H _ I (sU_read h)) fun v t ⟨x, H1, I1, r1, y, z, ry, ez, kq⟩ => PyProof.Rows.args_nil ?_) na) na rfl
  unfold fLenSet at ez
  split at ez
  · rename_i ds e1
    split at ez
    · rename_i ss e2
      split at ez
      · rename_i few
        cases ez
        obtain ⟨pa, vs, rfl, sq, rr⟩ := w_lst ry e1
        have ev := strsOf_reps rr e2
        subst ev
        cases r1
        obtain ⟨its, rv, pl, hz⟩ := I1.list (.inl sq)
        have hb : scanBound = 4096 := rfl
        refine call_strs (I1.ok.hd r.calm) pl.isList (by simpa using strs_are rv) (by omega) fun h2 tk hd old => PyProof.Rows.args_nil ?_
        obtain ⟨o, es, ep, tb, ho, hex, hdt, _, _, _, hf, hn⟩ := hd
        have I2 : Inv X pins σ H1 { t with heap := h2, toks := tk } := I1.kept fun b o e => old b o (Heap.lt_size e) e
        have hm := met_le (xs := ss)
        exact call_len_set ho hex hdt hf (by rw [hn]; omega) ⟨.int (met ss).length, H1, I2.tok _, ⟨_, by rw [hn]⟩, kq _ H1 Same.refl rfl⟩
      · cases ez
    · cases ez
  · cases ez
end
end TT
end
section
set_option maxRecDepth 100000
set_option maxHeartbeats 4000000
/-! U16: what the head's Hook tells: defs, names, tables, exceptions. -/
namespace TT
open PySem PySem.Spec PyProof.Rows L2

abbrev AsF := (Addr → Option Obj) → List Addr
abbrev AlA : Type := He.AlT × Bool
def obsA (as : AsF) (fa : List He.Fa) (fn : List He.DefD) (ts : List He.Tab) (ex : PySem.W.Frag → Bool) (g : Addr → Option Obj) : AlA := (He.obsT fa fn ts (He.frG g (as g)), ex (He.frG g (as g)))
def hookA (as : AsF) (fa : List He.Fa) (fn : List He.DefD) (ts : List He.Tab) (ex : PySem.W.Frag → Bool) : PySem.W.Hook where
  α := AlA
  obs := fun s => obsA as fa fn ts ex s.heap.get?
  val := fun w => (He.valT fn ts w, true)
  says := fun w h => ∃ K : PySem.W.Frag, K.In h ∧ He.SaysT fa fn ts w K ∧ ex K = true
  of := fun _ _ e => ⟨_, He.frG_in, congrArg (fun z : AlA => z.1) e, congrArg (fun z : AlA => z.2) e⟩
  keeps := fun _ _ _ ⟨K, hK, c⟩ k => ⟨K, PySem.W.Frag.In.keeps hK k, c⟩
theorem obsA_eq {as : AsF} {fa : List He.Fa} {fn : List He.DefD} {ts : List He.Tab} {ex : PySem.W.Frag → Bool} {g : Addr → Option Obj} {s : Shared} (h : ∀ a, g a = s.heap.get? a) : obsA as fa fn ts ex g = (hookA as fa fn ts ex).obs s := by
  have e : g = s.heap.get? := funext h
  rw [e]; rfl

/-! ### exceptions -/
def veB : List Value := [.type "ValueError", .type "Exception", .type "BaseException", .type "object"]
def optB (o : Option Bool) (b : Bool) : Bool := match o with
  | some c => c == b
  | none => false
theorem optB_ok {o : Option Bool} {b : Bool} (h : optB o b = true) : o = some b := by
  cases o with
  | none => cases h
  | some c => have : c = b := by simpa [optB] using h
              rw [this]
/-- one exception class -/
def exOne (K : PySem.W.Frag) (C : Addr) : Bool :=
  (PySem.W.clsIn K C).isSome && (He.eqO (PySem.W.findIn K (.ref C) "__getattribute__") (some (some (.builtin "BaseException.__getattribute__"))) && (He.eqO (PySem.W.findIn K (.ref C) "__getattr__") (some none) &&
  (optB (PySem.W.subIn K (.ref C) (.type "BaseException")) true && (He.eqO (PySem.W.findIn K (.ref C) "__class__") (some (some (.builtin "object.__class__"))) && (optB (PySem.W.mroIn K C (.type "object")) true && optB (PySem.W.kitOne K (.ref C) (.type "ValueError")) true)))))
def exTwo (K : PySem.W.Frag) (C E : Addr) (b : Bool) : Bool := optB (PySem.W.kitOne K (.ref C) (.ref E)) b && optB (PySem.W.exmOne K (.ref C) (.ref E)) b
def exAll (K : PySem.W.Frag) (en : List Str) (sub : Nat → Nat → Bool) : Bool :=
  (He.eqO (PySem.W.specialIn K (.builtin "object.__class__") "__get__") (some (some (.builtin "getset_descriptor.__get__"))) && optB (PySem.W.takesIn K (.builtin "object.__class__")) true) &&
  ((List.range en.length).all fun c => exOne K (He.ga K (en.getD c "DrawError")) && (List.range en.length).all fun e => exTwo K (He.ga K (en.getD c "DrawError")) (He.ga K (en.getD e "DrawError")) (sub c e))
def rz0B (K : PySem.W.Frag) (x : Str) : Bool := PySem.W.excIn K (He.ga K x) veB "ValueError.__new__" && (PySem.W.keepIn K (.ref (He.ga K x)) && (optB (PySem.W.subIn K (.ref (He.ga K x)) (.type "BaseException")) true && He.eqO ((PySem.W.typeIn K (.ref (He.ga K x))).map some) (some (some (.type "type")))))
/-- no list of whole numbers stands there -/
def noInts (K : PySem.W.Frag) : Bool := K.all fun p => match p.2 with
  | ⟨.type c, _, .seq its _, _⟩ => !(c == "list") || (match its.toList with
    | .str _ _ :: _ => true
    | _ => false)
  | _ => true
/-- the text at large, from the Hook's fragment -/
def mkF (P : Program) (w : World) (K : PySem.W.Frag) (mg : Str → Option Value) (base : Heap) (en ef cn : List Str) (cf : List (List Str)) : Fx where
  P := P
  w := w
  T := { K := K, mg := mg, cA := fun c => He.ga K (cn.getD c "Made"), cF := fun c => cf.getD c [], eA := fun c => He.ga K (en.getD c "DrawError"), eF := fun c => ef.getD c "step" }
  base := base
section
variable {P : Program} {w : World} {K : PySem.W.Frag} {mg : Str → Option Value} {base : Heap} {en ef cn : List Str} {cf : List (List Str)} {sub : Nat → Nat → Bool}
theorem ba {a b : Bool} (h : (a && b) = true) : a = true ∧ b = true := Bool.and_eq_true_iff.mp h
/-- beyond the list the first class stands -/
theorem exF_of (h : exAll K en sub = true) (h0 : en[0]? = some ("DrawError" : Str)) (hs : ∀ c e, sub c e = sub (if c < en.length then c else 0) (if e < en.length then e else 0)) : ExF (mkF P w K mg base en ef cn cf).T sub := by
  obtain ⟨hh, h2⟩ := ba h
  obtain ⟨hn, ht⟩ := ba hh
  have key : ∀ c, ∃ j, j < en.length ∧ (if c < en.length then c else 0) = j ∧ en.getD c "DrawError" = en.getD j "DrawError" := fun c => by
    by_cases hc : c < en.length
    · exact ⟨c, hc, if_pos hc, rfl⟩
    · have hl : 0 < en.length := (List.getElem?_eq_some_iff.mp h0).1
      refine ⟨0, hl, if_neg hc, ?_⟩
      rw [List.getD_eq_getElem?_getD, List.getD_eq_getElem?_getD, h0, List.getElem?_eq_none (by omega)]
      rfl
  have one : ∀ c, exOne K ((mkF P w K mg base en ef cn cf).T.eA c) = true := fun c => by
    obtain ⟨j, hj, _, e⟩ := key c
    show exOne K (He.ga K (en.getD c "DrawError")) = true
    rw [e]
    exact (ba (List.all_eq_true.mp h2 j (List.mem_range.mpr hj))).1
  have two : ∀ c e, exTwo K ((mkF P w K mg base en ef cn cf).T.eA c) ((mkF P w K mg base en ef cn cf).T.eA e) (sub c e) = true := fun c e => by
    obtain ⟨j, hj, ej, e1⟩ := key c
    obtain ⟨i, hi, ei, e2⟩ := key e
    show exTwo K (He.ga K (en.getD c "DrawError")) (He.ga K (en.getD e "DrawError")) (sub c e) = true
    rw [hs, e1, e2, ej, ei]
    exact List.all_eq_true.mp (ba (List.all_eq_true.mp h2 j (List.mem_range.mpr hj))).2 i (List.mem_range.mpr hi)
  have p : ∀ c, _ := fun c => ba (one c)
  have p1 : ∀ c, _ := fun c => ba (p c).2
  have p2 : ∀ c, _ := fun c => ba (p1 c).2
  have p3 : ∀ c, _ := fun c => ba (p2 c).2
  have p4 : ∀ c, _ := fun c => ba (p3 c).2
  have p5 : ∀ c, _ := fun c => ba (p4 c).2
  exact ⟨fun c => (p c).1, fun c => He.eqO_ok (p1 c).1, fun c => He.eqO_ok (p2 c).1, fun c => optB_ok (p3 c).1, fun c => He.eqO_ok (p4 c).1, fun c => optB_ok (p5 c).1, He.eqO_ok hn, optB_ok ht,
    fun c e => optB_ok (ba (two c e)).1, fun c => optB_ok (p5 c).2, fun c e => optB_ok (ba (two c e)).2⟩
theorem rz0_of {x : Str} {c : Nat} (h : rz0B K x = true) (hm : mg x = some (.ref (He.ga K x))) (hc : en.getD c "DrawError" = x) : Rz0 (mkF P w K mg base en ef cn cf) x c := by
  obtain ⟨h1, h⟩ := ba h
  obtain ⟨h2, h⟩ := ba h
  obtain ⟨h3, h4⟩ := ba h
  have e : (mkF P w K mg base en ef cn cf).T.eA c = He.ga K x := by show He.ga K (en.getD c "DrawError") = _; rw [hc]
  refine ⟨by rw [e]; exact hm, by rw [e]; exact h1, by rw [e]; exact h2, by rw [e]; exact optB_ok h3, ?_⟩
  rw [e]
  have q := He.eqO_ok h4
  obtain ⟨v, q1, q2⟩ := Option.map_eq_some_iff.mp q
  rw [← Option.some.inj q2]
  exact q1
theorem ex_of {x : Str} {c : Nat} (hm : mg x = some (.ref (He.ga K x))) (hc : en.getD c "DrawError" = x) : (mkF P w K mg base en ef cn cf).T.mg x = some (.ref ((mkF P w K mg base en ef cn cf).T.eA c)) := by
  show mg x = some (.ref (He.ga K (en.getD c "DrawError")))
  rw [hc]; exact hm
/-- no list of the fragment is the script -/
theorem rd_of (h : noInts K = true) {H : Hp} {a : Addr} {ns : List Int} (s : SqL K H a (ns.map V.int)) : Rd H a (.lst (ns.map V.int)) := by
  rcases s with s | ⟨o, its, n, h1, h2, h3, h4, h5, h6⟩
  · exact s
  · exfalso
    have hm : ∃ p ∈ K, p.2 = o := by
      have key : ∀ {l : PySem.W.Frag}, l.lookup a = some o → ∃ p ∈ l, p.2 = o := fun {l} => by
        induction l with
        | nil => intro e; cases e
        | cons p r ih =>
          intro e
          obtain ⟨b, ob⟩ := p
          rw [List.lookup_cons] at e
          split at e
          · cases e; exact ⟨_, List.mem_cons_self, rfl⟩
          · obtain ⟨q, q1, q2⟩ := ih e
            exact ⟨q, List.mem_cons_of_mem _ q1, q2⟩
      exact key h1
    obtain ⟨p, hp, e⟩ := hm
    have q := List.all_eq_true.mp h p hp
    rw [e] at q
    obtain ⟨oc, od, dt, osl⟩ := o
    dsimp only at h2 h4
    subst h2 h4
    have q : (!("list" == "list") || (match its.toList with
      | .str _ _ :: _ => true
      | _ => false)) = true := q
    rw [show (!("list" == "list")) = false from rfl, Bool.false_or] at q
    cases ns with
    | nil => cases h6' : its.toList with
      | nil => rw [h6'] at q; cases q
      | cons y ys => rw [h6'] at h6; cases h6
    | cons i is => cases h6' : its.toList with
      | nil => rw [h6'] at q; cases q
      | cons y ys =>
        rw [h6'] at h6 q
        cases h6 with
        | cons r rr =>
          obtain ⟨t, rfl⟩ := r
          cases q
/-! ### tables -/
def relE (K : PySem.W.Frag) : List DictEntry → List (Str × D) → Bool
  | [], [] => true
  | e :: es, q :: qs => (match e.key with
    | .str x _ => decide (x = q.1)
    | _ => false) && ((match q.2 with
    | .int i => He.relB (.int i) e.val
    | .str s => He.relB (.str s) e.val
    | _ => false) && relE K es qs)
  | _, _ => false
def tabB (K : PySem.W.Frag) (x : Str) (kvs : List (Str × D)) : Bool := match K.lookup (He.ga K x) with
  | some ⟨_, _, .dict es _, _⟩ => relE K es.toList kvs && !(es.toList.any (·.refKey))
  | _ => false
theorem relE_find {z : Str} : ∀ {es : List DictEntry} {kvs : List (Str × D)}, relE K es kvs = true → match kvs.find? fun q => q.1 == z with
    | some q => ∃ e v, es.find? (·.key.isStr z) = some e ∧ RelV v e.val ∧ flat q.2 = true ∧ ∀ T H, Rep T H q.2 v
    | none => es.find? (·.key.isStr z) = none
  | [], [], _ => by simp
  | [], _ :: _, h => by cases h
  | _ :: _, [], h => by cases h
  | e :: es, q :: qs, h => by
    obtain ⟨h1, h2⟩ := ba (show (_ && (_ && relE K es qs)) = true from h)
    obtain ⟨h3, h4⟩ := ba h2
    have ih := relE_find (z := z) h4
    obtain ⟨x, t, hx⟩ : ∃ x t, e.key = .str x t := by
      split at h1
      · rename_i x t q; exact ⟨x, t, q⟩
      · cases h1
    rw [hx] at h1
    have hq : x = q.1 := of_decide_eq_true h1
    have hk : e.key.isStr z = (q.1 == z) := by
      rw [hx, ← hq]
      rfl
    rw [List.find?_cons, List.find?_cons, hk]
    cases hz : q.1 == z with
    | true =>
      dsimp only
      split at h3
      · rename_i i qe
        rw [qe]
        exact ⟨e, .int i, rfl, He.relB_ok h3, rfl, fun _ _ => rfl⟩
      · rename_i i qe
        rw [qe]
        exact ⟨e, .str i, rfl, He.relB_ok h3, rfl, fun _ _ => rfl⟩
      · cases h3
    | false => exact ih
theorem tab_of {x : Str} {kvs : List (Str × D)} (h : tabB K x kvs = true) (hm : mg x = some (.ref (He.ga K x))) (hk : ∃ es n, KDict K w (He.ga K x) es n) : TabF (mkF P w K mg base en ef cn cf) x kvs := by
  refine ⟨He.ga K x, hm, hk, fun z => ?_⟩
  show match kvs.find? fun q => q.1 == z with
    | some q => ∃ u v, PySem.W.nsIn K (He.ga K x) z = some (some u) ∧ RelV v u ∧ flat q.2 = true ∧ ∀ T H, Rep T H q.2 v
    | none => PySem.W.nsIn K (He.ga K x) z = some none
  unfold tabB at h
  unfold PySem.W.nsIn
  split at h
  · rename_i es n _ e
    obtain ⟨h1, h2⟩ := ba h
    rw [e]
    have f := relE_find (z := z) h1
    have h2 : es.toList.any (·.refKey) = false := by simpa using h2
    cases hf : kvs.find? fun q => q.1 == z with
    | none =>
      rw [hf] at f
      dsimp only at f ⊢
      rw [f, h2]; rfl
    | some q =>
      rw [hf] at f
      obtain ⟨e1, v, f1, f2, f3⟩ := f
      dsimp only
      rw [f1]
      exact ⟨e1.val, v, rfl, f2, f3⟩
  · cases h
end
/-! ### the law's def, called by the head -/
theorem calm_of {P : Program} {w : World} {K : PySem.W.Frag} {mg : Str → Option Value} {base : Heap} {k : Nat} {f : Addr} {fd : FuncData} {ps : List Str} {sp : Sp} (F : FnOk P w K mg base (L2.CX P w) k f fd ps sp) : FnOk P w K mg base CX0 k f fd ps (fun vs H Q _ => sp vs H Q E0) :=
  ⟨fun vs H Q E h => F.len vs H Q E0 h, fun A outer s H args us vs Q E hr he hb hv hs => codeAny_mono (F.run A outer s H args us vs Q E0 hr he hb hv hs) fun r s' h => by
    cases r with
    | ok fl => cases fl <;> exact h
    | error e =>
      obtain ⟨_, _, _, _, _, _, _, _, _, _, _, _, z⟩ := (show L2.CX P w outer H s E0 e s' from h)
      exact z.elim⟩
theorem ints_reps {T : Tx} {H : Hp} : ∀ {ns : List Int}, Reps T H (ns.map D.int) (ns.map V.int)
  | [] => rfl
  | n :: ns => ⟨.int n, ns.map V.int, rfl, rfl, ints_reps⟩
theorem law_sp {F : Fx} {K : PySem.W.Frag} (hn : noInts K = true) {g : List Sl → R Sl} {H : Hp} {a : Addr} {ns : List Int} (s : SqL K H a (ns.map V.int)) (h : g [.bor (ns.map D.int)] = ok (.fr (.bl true))) : spT F.T 1 g [.ref a] H (fun v _ => v = .bl true) E0 := by
  refine ⟨[.bor (ns.map D.int)], rfl, .cons ⟨a, ns.map V.int, rfl, rd_of hn s, ints_reps⟩ .nil, ?_⟩
  rw [h]
  exact fun v H' _ r => r
end TT
end
section
set_option maxRecDepth 100000
set_option maxHeartbeats 400000
/-! U17: how the data functions are computed. -/
namespace TT
open PySem PySem.Spec L2
@[simp] theorem e_ok {α : Type} (a : α) : (some (Out.val a) : R α) = ok a := rfl
@[simp] theorem e_xTry {sub : Nat → Nat → Bool} {b : Ex} {hs : List Hc} {δ : Dl} : xTry sub b hs δ = (match b δ with
  | some (.exc δ' c xs) => catchS sub hs δ' c xs
  | r => r) := rfl
@[simp] theorem e_catch0 {sub : Nat → Nat → Bool} {δ : Dl} {c : Nat} {xs : List D} : catchS sub [] δ c xs = some (.exc δ c xs) := rfl
@[simp] theorem e_catch {sub : Nat → Nat → Bool} {h : Hc} {r : List Hc} {δ : Dl} {c : Nat} {xs : List D} : catchS sub (h :: r) δ c xs = if sub c h.c = true then (match h.sl with
      | none => offS (h.ex δ)
      | some i => if i < δ.length then postS i (offS (h.ex (δ.set i (.fr (.exc c xs))))) else none)
    else catchS sub r δ c xs := rfl
@[simp] theorem e_off {δ : Dl} : offS (some (.nx δ)) = some (.nx δ) := rfl
@[simp] theorem e_offr {δ : Dl} {r : Sl} : offS (some (.ret δ r)) = some (.ret δ r) := rfl
@[simp] theorem e_post {i : Nat} {δ : Dl} : postS i (some (.nx δ)) = some (.nx (δ.set i .no)) := rfl
@[simp] theorem e_postr {i : Nat} {δ : Dl} {r : Sl} : postS i (some (.ret δ r)) = some (.ret δ r) := rfl
@[simp] theorem e_raise0 {c : Nat} {δ : Dl} : xRaise0 c δ = some (.exc δ c []) := rfl
@[simp] theorem e_raise1 {c : Nat} {a : Ev Sl} {δ : Dl} : xRaise1 c a δ = thenS δ (sF a δ) fun d => some (.exc δ c [d]) := rfl
@[simp] theorem e_sVar {i : Nat} {δ : Dl} : sVar i δ = (match δ[i]? with
  | some (.fr d) => ok (.fr d)
  | some (.own ds) => ok (.bor ds)
  | some (.bor ds) => ok (.bor ds)
  | some (.dt _ kvs) => ok (.dt false kvs)
  | some (.dk _ kvs) => ok (.dk false kvs)
  | some (.deep m) => ok (.view m)
  | some (.mp m) => ok (.view m)
  | some (.lent m) => ok (.lent m)
  | _ => none) := rfl
@[simp] theorem e_sC {d : D} {δ : Dl} : sC d δ = ok (.fr d) := rfl
@[simp] theorem e_sNil {δ : Dl} : sNil δ = ok [] := rfl
@[simp] theorem e_sCons {a : Ev Sl} {as : Ev (List Sl)} {δ : Dl} : sCons a as δ = bnd (a δ) fun x => bnd (as δ) fun xs => ok (x :: xs) := rfl
@[simp] theorem e_sB {f : Sl → Sl → Option Sl} {a b : Ev Sl} {δ : Dl} : sB f a b δ = bnd (a δ) fun x => bnd (b δ) fun y => opt (f x y) := rfl
@[simp] theorem e_sU {f : Sl → Option Sl} {a : Ev Sl} {δ : Dl} : sU f a δ = bnd (a δ) fun x => opt (f x) := rfl
@[simp] theorem e_sTest {a : Ev Sl} {δ : Dl} : sTest a δ = bnd (a δ) fun x => opt (asB x) := rfl
@[simp] theorem e_sTru {a : Ev Sl} {δ : Dl} : sTru a δ = bnd (a δ) fun x => opt (tru x) := rfl
@[simp] theorem e_sBi {f : List Sl → Option Sl} {as : Ev (List Sl)} {δ : Dl} : sBi f as δ = bnd (as δ) fun l => opt (f l) := rfl
@[simp] theorem e_sSm {ty : String} {f : Sl → List Sl → Option Sl} {o : Ev Sl} {as : Ev (List Sl)} {δ : Dl} : sSm ty f o as δ = bnd (o δ) fun x => if isTy ty x = true then bnd (as δ) fun l => opt (f x l) else none := rfl
@[simp] theorem e_sCv {bs : List Md} {as : Ev (List Sl)} {δ : Dl} : sCv bs as δ = bnd (as δ) fun l => opt (cvs bs l) := rfl
@[simp] theorem e_sCall {g : List Sl → R Sl} {bs : List Md} {as : Ev (List Sl)} {δ : Dl} : sCall g bs as δ = bnd (bnd (as δ) fun l => opt (cvs bs l)) fun l => g l := rfl
@[simp] theorem e_sF {a : Ev Sl} {δ : Dl} : sF a δ = bnd (a δ) fun x => opt (fz x) := rfl
@[simp] theorem e_sFs {a : Ev (List Sl)} {δ : Dl} : sFs a δ = bnd (a δ) fun x => opt (fzs x) := rfl
@[simp] theorem e_sLst {as : Ev (List Sl)} {δ : Dl} : sLst as δ = bnd (sFs as δ) fun ds => if ds.length ≤ sizeLine then ok (.own ds) else none := rfl
@[simp] theorem e_sTup {as : Ev (List Sl)} {δ : Dl} : sTup as δ = bnd (sFs as δ) fun ds => if ds.length ≤ sizeLine then ok (.fr (.tup ds)) else none := rfl
@[simp] theorem e_sAnd {a b : Ev Bool} {δ : Dl} : sAnd a b δ = bnd (a δ) fun x => if x = true then b δ else ok false := rfl
@[simp] theorem e_sOr {a b : Ev Bool} {δ : Dl} : sOr a b δ = bnd (a δ) fun x => if x = true then ok true else b δ := rfl
@[simp] theorem e_sNot {a : Ev Bool} {δ : Dl} : sNot a δ = bnd (a δ) fun x => ok (!x) := rfl
@[simp] theorem e_sNotV {a : Ev Sl} {δ : Dl} : sNotV a δ = bnd (a δ) fun x => bnd (opt (asB x)) fun c => ok (.fr (.bl (!c))) := rfl
@[simp] theorem e_sAndV {a b : Ev Sl} {δ : Dl} : sAndV a b δ = bnd (a δ) fun x => bnd (opt (asB x)) fun c => if c = true then b δ else ok (.fr (.bl false)) := rfl
@[simp] theorem e_sOrV {a b : Ev Sl} {δ : Dl} : sOrV a b δ = bnd (a δ) fun x => bnd (opt (asB x)) fun c => if c = true then ok (.fr (.bl true)) else b δ := rfl
@[simp] theorem e_sIf {t : Ev Bool} {a b : Ev Sl} {δ : Dl} : sIf t a b δ = bnd (t δ) fun x => if x = true then a δ else b δ := rfl
@[simp] theorem e_sNeg {a : Ev Sl} {δ : Dl} : sNeg a δ = bnd (a δ) fun x => bnd (opt (asI x)) fun i => ok (.fr (.int (-i))) := rfl
@[simp] theorem e_sSlc {a : Ev Sl} {lo hi : EvO} {δ : Dl} : sSlc a lo hi δ = bnd (a δ) fun x => bnd (lo δ) fun l => bnd (hi δ) fun h => opt (fSlc x l h) := rfl
@[simp] theorem e_oNo {δ : Dl} : oNo δ = ok none := rfl
@[simp] theorem e_oYes {a : Ev Sl} {δ : Dl} : oYes a δ = bnd (a δ) fun x => bnd (opt (asI x)) fun i => ok (some i) := rfl
@[simp] theorem e_sIs {sub : Nat → Nat → Bool} {k : Kd} {a : Ev Sl} {δ : Dl} : sIs sub k a δ = bnd (a δ) fun x => opt ((isQ sub x k).map fun b => .fr (.bl b)) := rfl
@[simp] theorem e_xNil {δ : Dl} : xNil δ = some (.nx δ) := rfl
@[simp] theorem e_xSeq {a b : Ex} {δ : Dl} : xSeq a b δ = thenX (a δ) b := rfl
@[simp] theorem e_xSet {i : Nat} {a : Ev Sl} {δ : Dl} : xSet i a δ = thenS δ (a δ) fun r => store i δ r := rfl
@[simp] theorem e_storeI {i : Nat} {δ : Dl} {r : Sl} : store i δ r = if storeOk r = true then (if i < δ.length then some (.nx (δ.set i r)) else none) else none := rfl
@[simp] theorem e_so1 {d : D} : storeOk (.fr d) = true := rfl
@[simp] theorem e_so2 {d : List D} : storeOk (.own d) = true := rfl
@[simp] theorem e_so3 {m : M} : storeOk (.deep m) = true := rfl
@[simp] theorem e_so4 {m : M} : storeOk (.lent m) = true := rfl
@[simp] theorem e_so5 {kvs : List (List Key × D)} : storeOk (.dt true kvs) = true := rfl
@[simp] theorem e_so6 {kvs : List (Key × D)} : storeOk (.dk true kvs) = true := rfl
@[simp] theorem e_oo1 {d : D} : outOk (.fr d) = true := rfl
@[simp] theorem e_oo2 {d : List D} : outOk (.own d) = true := rfl
@[simp] theorem e_oo3 {m : M} : outOk (.deep m) = true := rfl
@[simp] theorem e_xFrz {i : Nat} {δ : Dl} : xFrz i δ = (match δ[i]? with
  | some (.own ds) => some (.nx (δ.set i (.fr (.lst ds))))
  | some (.deep m) => some (.nx (δ.set i (.fr m.toD)))
  | some (.fr d) => some (.nx δ)
  | _ => none) := rfl
@[simp] theorem e_xFgt {is : List Nat} {δ : Dl} : xFgt is δ = some (.nx (is.foldl (fun δ i => δ.set i .no) δ)) := rfl
@[simp] theorem e_xExpr {a : Ev Sl} {δ : Dl} : xExpr a δ = thenS δ (a δ) fun _ => some (.nx δ) := rfl
@[simp] theorem e_xRet {a : Ev Sl} {δ : Dl} : xRet a δ = thenS δ (a δ) fun r => if outOk r = true then some (.ret δ r) else none := rfl
@[simp] theorem e_xRetMv {i : Nat} {δ : Dl} : xRetMv i δ = (match δ[i]? with
  | some (.own ds) => some (.ret (δ.set i .no) (.own ds))
  | some (.deep m) => some (.ret (δ.set i .no) (.deep m))
  | some (.fr d) => some (.ret δ (.fr d))
  | _ => none) := rfl
@[simp] theorem e_xRetN {δ : Dl} : xRetN δ = some (.ret δ (.fr .non)) := rfl
@[simp] theorem e_xIf {t : Ev Bool} {a b : Ex} {δ : Dl} : xIf t a b δ = thenS δ (t δ) fun c => if c = true then a δ else b δ := rfl
@[simp] theorem e_xFor {src : Src} {t : Tg} {body : Ex} {δ : Dl} : xFor src t body δ = thenS δ (src δ) fun ds => forD t body ds δ := rfl
@[simp] theorem e_forD0 {t : Tg} {body : Ex} {δ : Dl} : forD t body [] δ = some (.nx δ) := rfl
@[simp] theorem e_srcF {a : Ev Sl} {δ : Dl} : srcF a δ = bnd (sF a δ) fun d => opt (itemsD d) := rfl
@[simp] theorem e_srcX {a : Ev Sl} {δ : Dl} : srcX a δ = bnd (a δ) fun x => opt (itemsS x) := rfl
@[simp] theorem e_srcR1 {a : Ev Sl} {δ : Dl} : srcR1 a δ = bnd (a δ) fun x => bnd (opt (asI x)) fun j => if inR j = true then ok ((List.range j.toNat).map fun k : Nat => D.int (0 + (k : Int))) else none := rfl
@[simp] theorem e_srcR2 {a b : Ev Sl} {δ : Dl} : srcR2 a b δ = bnd (a δ) fun x => bnd (b δ) fun y => bnd (opt (asI x)) fun i => bnd (opt (asI y)) fun j => if inR i && inR j then ok ((List.range (j - i).toNat).map fun k : Nat => D.int (i + (k : Int))) else none := rfl
@[simp] theorem e_sComp {src : Src} {t : Tg} {vs : List Nat} {cond : Ev Bool} {elt : Ev D} {δ : Dl} : sComp src t vs cond elt δ = bnd (src δ) fun ds => bnd (compL t cond elt ds (wipeD δ vs) []) fun acc => ok (.own acc) := rfl
@[simp] theorem e_sYes {δ : Dl} : sYes δ = ok true := rfl
@[simp] theorem e_xMut {i : Nat} {as : Ev (List Sl)} {f : List D → List D → Option (List D)} {δ : Dl} : xMut i as f δ = (match δ[i]? with
  | some (.own ds) => thenS δ (sFs as δ) fun args => (match f ds args with
    | some es => some (.nx (δ.set i (.own es)))
    | none => none)
  | _ => none) := rfl
@[simp] theorem e_xSto {i : Nat} {ix a : Ev Sl} {δ : Dl} : xSto i ix a δ = thenS δ (sF a δ) fun d => (match δ[i]? with
  | some (.own ds) => thenS δ (ix δ) fun j => (match asI j with
    | some j => (match ixN ds.length j with
      | some k => some (.nx (δ.set i (.own (ds.set k d))))
      | none => none)
    | none => none)
  | _ => none) := rfl
@[simp] theorem e_asB {b : Bool} : asB (.fr (.bl b)) = some b := rfl
@[simp] theorem e_asI {b : Int} : asI (.fr (.int b)) = some b := rfl
@[simp] theorem e_fz {d : D} : fz (.fr d) = some d := rfl
@[simp] theorem e_fzo {d : List D} : fz (.own d) = some (.lst d) := rfl
@[simp] theorem e_fzs0 : fzs [] = some [] := rfl
@[simp] theorem e_fzs {a : Sl} {as : List Sl} : fzs (a :: as) = (match fz a, fzs as with
    | some d, some ds => some (d :: ds)
    | _, _ => none) := rfl
@[simp] theorem e_cvs0 : cvs [] [] = some [] := rfl
@[simp] theorem e_cvs {b : Md} {bs : List Md} {a : Sl} {as : List Sl} : cvs (b :: bs) (a :: as) = (match cv b a, cvs bs as with
    | some x, some xs => some (x :: xs)
    | _, _ => none) := rfl
@[simp] theorem e_cvF {a : D} : cv .fr (.fr a) = some (.fr a) := rfl
@[simp] theorem e_cvO {a : List D} : cv .fr (.own a) = some (.fr (.lst a)) := rfl
@[simp] theorem e_cvDp {m : M} : cv .fr (.deep m) = some (.fr m.toD) := rfl
@[simp] theorem e_cvTB {a : List D} : cv .bo (.bor a) = some (.bor a) := rfl
@[simp] theorem e_cvTO {a : List D} : cv .bo (.own a) = some (.bor a) := rfl
@[simp] theorem e_cvTF {a : List D} : cv .bo (.fr (.lst a)) = some (.bor a) := rfl
@[simp] theorem e_cvTM {m : M} : cv .bo (.lent m) = (mItems m).map .bor := rfl
@[simp] theorem e_cvLe {a : Sl} : cv .le a = (asM a).map .lent := rfl
@[simp] theorem e_put {i : Nat} {d : D} {δ : Dl} : Tg.put (.one i) d δ = if i < δ.length then some (δ.set i (.fr d)) else none := rfl
@[simp] theorem e_wipe0 {δ : Dl} : wipeD δ [] = δ := rfl
@[simp] theorem e_wipe {δ : Dl} {v : Nat} {vs : List Nat} : wipeD δ (v :: vs) = (wipeD δ vs).set v .no := rfl
@[simp] theorem e_addI {i j : Int} : fAdd (.fr (.int i)) (.fr (.int j)) = some (.fr (.int (i + j))) := rfl
@[simp] theorem e_subI {i j : Int} : fSub (.fr (.int i)) (.fr (.int j)) = some (.fr (.int (i - j))) := rfl
@[simp] theorem e_ltI {i j : Int} : fLt (.fr (.int i)) (.fr (.int j)) = some (.fr (.bl (decide (i < j)))) := rfl
@[simp] theorem e_leI {i j : Int} : fLe (.fr (.int i)) (.fr (.int j)) = some (.fr (.bl (decide (i ≤ j)))) := rfl
@[simp] theorem e_gtI {i j : Int} : fGt (.fr (.int i)) (.fr (.int j)) = some (.fr (.bl (decide (j < i)))) := rfl
@[simp] theorem e_geI {i j : Int} : fGe (.fr (.int i)) (.fr (.int j)) = some (.fr (.bl (decide (j ≤ i)))) := rfl
theorem e_addS {x y : Str} (h : x.length + y.length ≤ sizeLine) : fAdd (.fr (.str x)) (.fr (.str y)) = some (.fr (.str (x ++ y))) := by
  unfold fAdd
  exact if_pos h
theorem e_modI {i j : Int} (h : j ≠ 0) : fMod (.fr (.int i)) (.fr (.int j)) = some (.fr (.int (i.fmod j))) := if_pos h
theorem e_modP {i j : Int} (h : 0 < j) : fMod (.fr (.int i)) (.fr (.int j)) = some (.fr (.int (i % j))) := by
  rw [e_modI (by omega), Int.fmod_eq_emod_of_nonneg _ (by omega)]
theorem e_divP {i j : Int} (h : 0 < j) (h2 : j < 1000000000) : fDiv (.fr (.int i)) (.fr (.int j)) = some (.fr (.int (i / j))) := by
  refine if_pos ⟨h, ?_⟩
  have h1 : j.natAbs < 2 ^ 30 := by omega
  have h3 : j.natAbs.log2 < 30 := by
    by_cases z : j.natAbs = 0
    · rw [z]; decide
    · exact (Nat.log2_lt z).mpr h1
  omega
theorem e_mulR {i j : Int} (h : -(2 ^ 64) < j) (h2 : j < 2 ^ 64) : fMul (.fr (.int i)) (.fr (.int j)) = some (.fr (.int (i * j))) := if_pos (by
  unfold mulOk
  rw [show decide (-(2 ^ 64) < j ∧ j < 2 ^ 64) = true from decide_eq_true ⟨h, h2⟩]
  simp)
theorem e_mulL {i j : Int} (h : -(2 ^ 64) < i) (h2 : i < 2 ^ 64) : fMul (.fr (.int i)) (.fr (.int j)) = some (.fr (.int (i * j))) := if_pos (by
  unfold mulOk
  rw [show decide (-(2 ^ 64) < i ∧ i < 2 ^ 64) = true from decide_eq_true ⟨h, h2⟩]
  simp)
theorem e_powI {i j : Int} (h : 0 ≤ j ∧ j ≤ 1000000 ∧ i.natAbs < 2 ^ 64) : fPow (.fr (.int i)) (.fr (.int j)) = some (.fr (.int (i ^ j.toNat))) := if_pos h
@[simp] theorem e_mulX1 {i : Int} {b : Sl} : fMulX (.fr (.int i)) b = fMul (.fr (.int i)) b := by
  cases b with
  | fr d => cases d <;> rfl
  | _ => rfl
theorem e_mulXS {s : Str} {n : Int} (h : -1000000 ≤ n ∧ n ≤ 1000000 ∧ s.length * n.toNat ≤ 1000000) : fMulX (.fr (.str s)) (.fr (.int n)) = some (.fr (.str (Txt.mul s n))) := if_pos h
@[simp] theorem e_min2 {i j : Int} : bMin2 [.fr (.int i), .fr (.int j)] = some (.fr (.int (if j < i then j else i))) := rfl
@[simp] theorem e_max2 {i j : Int} : bMax2 [.fr (.int i), .fr (.int j)] = some (.fr (.int (if j > i then j else i))) := rfl
end TT
end
section
set_option maxRecDepth 100000
set_option maxHeartbeats 400000
/-! U18: loops and comprehensions computed. -/
namespace TT
open PySem PySem.Spec L2
theorem compL_eq {i : Nat} {cond : Ev Bool} {elt : Ev D} {δ : Dl} (c : D → Bool) (f : D → D) (hi : i < δ.length) : ∀ {ds : List D} {acc : List D}, (∀ d ∈ ds, cond (δ.set i (.fr d)) = ok (c d)) → (∀ d ∈ ds, c d = true → elt (δ.set i (.fr d)) = ok (f d)) →
    acc.length + ds.length ≤ sizeLine → compL (.one i) cond elt ds δ acc = ok (acc ++ (ds.filter c).map f)
  | [], acc, _, _, _ => by simp [compL]
  | d :: ds, acc, h1, h2, hl => by
    have hl : acc.length + (ds.length + 1) ≤ sizeLine := hl
    unfold compL
    rw [e_put, if_pos hi]
    dsimp only
    rw [h1 d List.mem_cons_self]
    cases hc : c d with
    | true =>
      show (match elt (δ.set i (.fr d)) with
        | some (.val y) => if acc.length < sizeLine then compL (.one i) cond elt ds δ (acc ++ [y]) else none
        | _ => none) = _
      rw [h2 d List.mem_cons_self hc]
      show (if acc.length < sizeLine then compL (.one i) cond elt ds δ (acc ++ [f d]) else none) = _
      rw [if_pos (by omega), compL_eq c f hi (fun x hx => h1 x (List.mem_cons_of_mem _ hx)) (fun x hx => h2 x (List.mem_cons_of_mem _ hx)) (by simp; omega), List.filter_cons, if_pos hc]
      simp
    | false =>
      show compL (.one i) cond elt ds δ acc = _
      rw [compL_eq c f hi (fun x hx => h1 x (List.mem_cons_of_mem _ hx)) (fun x hx => h2 x (List.mem_cons_of_mem _ hx)) (by omega), List.filter_cons, if_neg (by rw [hc]; exact Bool.false_ne_true)]
/-- a loop without an end of its own -/
theorem forD_inv {i : Nat} {body : Ex} (P : Nat → Dl → Prop) : ∀ {ds : List D} {k : Nat} {δ : Dl}, P k δ → (∀ j d δ, ds[j]? = some d → P (k + j) δ → i < δ.length ∧ ∃ δ2, body (δ.set i (.fr d)) = some (.nx δ2) ∧ P (k + (j + 1)) δ2) →
    ∃ δ2, forD (.one i) body ds δ = some (.nx δ2) ∧ P (k + ds.length) δ2
  | [], k, δ, p, _ => ⟨δ, rfl, p⟩
  | d :: ds, k, δ, p, h => by
    obtain ⟨hi, δ1, e1, p1⟩ := h 0 d δ (by simp) (by simpa using p)
    obtain ⟨δ2, e2, p2⟩ := forD_inv P (ds := ds) (k := k + 1) (δ := δ1) (by simpa using p1) fun j x δ' hj hp => by
      obtain ⟨a, δ3, b, c⟩ := h (j + 1) x δ' (by simpa using hj) (by rw [show k + (j + 1) = k + 1 + j by omega]; exact hp)
      exact ⟨a, δ3, b, by rw [show k + 1 + (j + 1) = k + (j + 1 + 1) by omega]; exact c⟩
    refine ⟨δ2, ?_, by rw [show k + (d :: ds).length = k + 1 + ds.length by simp; omega]; exact p2⟩
    unfold forD
    rw [e_put, if_pos hi]
    show thenX (body (δ.set i (.fr d))) _ = _
    rw [e1]
    exact e2
/-- a loop that leaves the state, or is left by an exception -/
theorem forD_all {i : Nat} {body : Ex} {δ : Dl} {c : Nat} (good : D → Bool) (hi : i < δ.length) : ∀ {ds : List D}, (∀ d ∈ ds, good d = true → body (δ.set i (.fr d)) = some (.nx δ)) → (∀ d ∈ ds, good d = false → ∃ δ', body (δ.set i (.fr d)) = some (.exc δ' c [])) →
    (ds.all good = true ∧ forD (.one i) body ds δ = some (.nx δ)) ∨ (ds.all good = false ∧ ∃ δ', forD (.one i) body ds δ = some (.exc δ' c []))
  | [], _, _ => .inl ⟨rfl, rfl⟩
  | d :: ds, h1, h2 => by
    unfold forD
    rw [e_put, if_pos hi]
    dsimp only
    cases hg : good d with
    | true =>
      rw [h1 d List.mem_cons_self hg, List.all_cons, hg]
      exact forD_all good hi (fun x hx => h1 x (List.mem_cons_of_mem _ hx)) fun x hx => h2 x (List.mem_cons_of_mem _ hx)
    | false =>
      obtain ⟨δ', e⟩ := h2 d List.mem_cons_self hg
      rw [e, List.all_cons, hg]
      exact .inr ⟨rfl, δ', rfl⟩
def plainD : D → Bool
  | .ins _ _ => false
  | .exc _ _ => false
  | _ => true
def isIntD : D → Bool
  | .int _ => true
  | _ => false
theorem e_eqI (i j : Int) : fEq (.fr (.int i)) (.fr (.int j)) = some (.fr (.bl (decide (i = j)))) := by
  have h : PyData.eqv (.int i) (.int j) = decide (i = j) := by
    simp only [PyData.eqv]
    by_cases e : i = j
    · subst e; simp
    · simp [e]
  show some (Sl.fr (D.bl (PyData.eqv (.int i) (.int j)))) = _
  rw [h]
theorem e_neI (i j : Int) : fNe (.fr (.int i)) (.fr (.int j)) = some (.fr (.bl (decide (i ≠ j)))) := by
  have h : PyData.eqv (.int i) (.int j) = decide (i = j) := by
    simp only [PyData.eqv]
    by_cases e : i = j
    · subst e; simp
    · simp [e]
  show some (Sl.fr (D.bl (!PyData.eqv (.int i) (.int j)))) = _
  rw [h]
  by_cases e : i = j <;> simp [e]
theorem shaped_str {i : Str} (h : PyData.strOk i = true) : SeqAt.shaped (.str i) = true := by
  unfold SeqAt.shaped
  rw [show (PyData.str i).canLay0 = true by simpa [PyData.canLay0] using h]
  rfl
theorem e_eqS {i j : Str} (hi : PyData.strOk i = true) (hj : PyData.strOk j = true) : fEq (.fr (.str i)) (.fr (.str j)) = some (.fr (.bl (decide (i = j)))) := by
  have h : PyData.eqv (.str i) (.str j) = decide (i = j) := by
    simp only [PyData.eqv]
    by_cases e : i = j
    · subst e; simp
    · simp [e]
  show (if (SeqAt.shaped (.str i) && SeqAt.shaped (.str j)) = true then some (PyData.eqv (.str i) (.str j)) else none).map _ = _
  rw [shaped_str hi, shaped_str hj]
  simp [h]
theorem e_neS {i j : Str} (hi : PyData.strOk i = true) (hj : PyData.strOk j = true) : fNe (.fr (.str i)) (.fr (.str j)) = some (.fr (.bl (decide (i ≠ j)))) := by
  have h : PyData.eqv (.str i) (.str j) = decide (i = j) := by
    simp only [PyData.eqv]
    by_cases e : i = j
    · subst e; simp
    · simp [e]
  show (if (SeqAt.shaped (.str i) && SeqAt.shaped (.str j)) = true then some (PyData.eqv (.str i) (.str j)) else none).map _ = _
  rw [shaped_str hi, shaped_str hj]
  simp only [Bool.and_self, if_true, Option.map_some, h]
  by_cases e : i = j <;> simp [e]
theorem cut_tail {α : Type} (x : α) (xs : List α) : cutD (x :: xs) (some 1) none = xs := by
  have h : HT.sIx (x :: xs).length 0 (some 1) = 1 := by
    show min 1 (xs.length + 1) = 1
    omega
  have h2 : HT.sIx (x :: xs).length (x :: xs).length none = (x :: xs).length := rfl
  unfold cutD
  rw [h, h2]
  simp
theorem slc_tail (x : D) (xs : List D) : fSlc (.fr (.tup (x :: xs))) (some 1) none = some (.fr (.tup xs)) := by
  show some (Sl.fr (D.tup (cutD (x :: xs) (some 1) none))) = _
  rw [cut_tail]
theorem at_zero {α : Type} (x : α) (xs : List α) : atI (x :: xs) 0 = some x := by
  unfold atI ixN
  rw [if_pos (by decide), if_pos (by simp)]
  rfl
theorem idx_zero (x : D) (xs : List D) : fIdx (.fr (.tup (x :: xs))) (.fr (.int 0)) = some (.fr x) := by
  show (match asSq (.fr (.tup (x :: xs))) with
    | some ds => (atI ds 0).map fun d => Sl.fr d
    | none => none) = _
  show (atI (x :: xs) 0).map _ = _
  rw [at_zero]; rfl
/-- flat data that == looks at -/
def eqD : D → Bool
  | .non => true
  | .bl _ => true
  | .int _ => true
  | .str s => PyData.strOk s
  | _ => false
theorem toP_eqD : ∀ {ds : List D}, ds.all eqD = true → ∃ ps, toPs ds = some ps ∧ PyData.canLayAll0 ps = true ∧ PyData.depthAll ps = 0 ∧ ps.length = ds.length ∧ PyData.eqvAll ps ps = true
  | [], _ => ⟨[], rfl, by simp [PyData.canLayAll0], by simp [PyData.depthAll], rfl, by simp [PyData.eqvAll]⟩
  | d :: ds, h => by
    rw [List.all_cons, Bool.and_eq_true] at h
    obtain ⟨ps, e1, e2, e3, e4, e5⟩ := toP_eqD h.2
    have key : ∀ p : PyData, toP d = some p → PyData.canLay0 p = true → PyData.depth p = 0 → PyData.eqv p p = true → ∃ ps, toPs (d :: ds) = some ps ∧ PyData.canLayAll0 ps = true ∧ PyData.depthAll ps = 0 ∧ ps.length = (d :: ds).length ∧ PyData.eqvAll ps ps = true := fun p a b c f => by
      refine ⟨p :: ps, ?_, by simp [PyData.canLayAll0, b, e2], by simp [PyData.depthAll, c, e3], by simp [e4], by simp [PyData.eqvAll, f, e5]⟩
      show (match toP d, toPs ds with
        | some x, some xs => some (x :: xs)
        | _, _ => none) = _
      rw [a, e1]
    cases d with
    | non => exact key .none rfl (by simp [PyData.canLay0]) (by simp [PyData.depth]) (by simp [PyData.eqv])
    | bl b => exact key (.bool b) rfl (by simp [PyData.canLay0]) (by simp [PyData.depth]) (by simp [PyData.eqv])
    | int b => exact key (.int b) rfl (by simp [PyData.canLay0]) (by simp [PyData.depth]) (by simp [PyData.eqv])
    | str s => exact key (.str s) rfl (by have q : PyData.strOk s = true := h.1; simp [PyData.canLay0, q]) (by simp [PyData.depth]) (by simp [PyData.eqv])
    | _ => exact absurd h.1 (by simp [eqD])
theorem shaped_list {ps : List PyData} (h1 : PyData.canLayAll0 ps = true) (h2 : PyData.depthAll ps = 0) : SeqAt.shaped (.list ps) = true := by
  unfold SeqAt.shaped
  simp [PyData.canLay0, PyData.depth, h1, h2]
theorem eq_self {ds : List D} (h : ds.all eqD = true) : fEq (.fr (.lst ds)) (.bor ds) = some (.fr (.bl true)) := by
  obtain ⟨ps, e1, e2, e3, e4, e5⟩ := toP_eqD h
  have a : slP (.fr (.lst ds)) = some (.list ps) := by show (toPs ds).map PyData.list = _; rw [e1]; rfl
  have b : slP (.bor ds) = some (.list ps) := by show (toPs ds).map PyData.list = _; rw [e1]; rfl
  unfold fEq eqP
  rw [a, b]
  simp [shaped_list e2 e3, PyData.eqv, e5]
theorem ne_nil {ds : List D} (h : ds.all eqD = true) : fNe (.own ds) (.own []) = some (.fr (.bl (!ds.isEmpty))) := by
  obtain ⟨ps, e1, e2, e3, e4, e5⟩ := toP_eqD h
  have a : slP (.own ds) = some (.list ps) := by show (toPs ds).map PyData.list = _; rw [e1]; rfl
  have b : slP (.own []) = some (.list []) := rfl
  unfold fNe eqP
  rw [a, b]
  have s0 : SeqAt.shaped (.list []) = true := shaped_list (by simp [PyData.canLayAll0]) (by simp [PyData.depthAll])
  cases ds with
  | nil =>
    cases ps with
    | nil => simp [s0, PyData.eqv, PyData.eqvAll]
    | cons p ps => simp at e4
  | cons d ds =>
    cases ps with
    | nil => simp at e4
    | cons p ps => simp [shaped_list e2 e3, s0, PyData.eqv, PyData.eqvAll]
theorem mIns_nat (ds : List D) (k : Nat) (d : D) (h : ds.length < sizeLine) (hk : k < 1000000) : mIns ds [.int (k : Int), d] = some (ds.take k ++ [d] ++ ds.drop k) := by
  have h1 : ds.length < sizeLine ∧ (0 : Int) ≤ (k : Int) ∧ (k : Int) < 2 ^ 63 := ⟨h, by omega, by omega⟩
  unfold mIns
  simp only [h1, and_self, if_true, Int.toNat_natCast]
theorem seqIx_nat (k n : Nat) (h : k < n) : seqIndex? (k : Int) n = some k := by
  unfold seqIndex?
  have h1 : ¬ (k : Int) < 0 := by omega
  have h2 : (k : Int) < (n : Int) := by omega
  simp [h1, h2]
  try omega
theorem mPop_nat (ds : List D) (k : Nat) (h : k < ds.length) (hk : k < 1000000) : mPopAt ds [.int (k : Int)] = some (ds.eraseIdx k) := by
  have h1 : -(2 ^ 63) ≤ (k : Int) ∧ (k : Int) < 2 ^ 63 := ⟨by omega, by omega⟩
  unfold mPopAt
  simp only [h1, and_self, if_true, seqIx_nat k _ h, h]
theorem inR_nat (n : Nat) (h : n ≤ 1000000) : inR (n : Int) = true := by
  show Nat.ble n 4611686018427387903 = true
  exact Nat.ble_eq_true_of_le (by omega)
theorem line_big : 4096 ≤ sizeLine := by rw [sizeLine_eq]; decide
end TT
end
section
set_option maxRecDepth 100000
set_option maxHeartbeats 400000
/-! U19: facts of classes from the Hook. -/
namespace TT
open PySem PySem.Spec PyProof.Rows L2
def attB (K : PySem.W.Frag) (cn : List Str) (cf : List (List Str)) (en ef : List Str) (f : Str) (ix : List (Option Nat)) (cs : List Nat) : Bool :=
  ((List.range ix.length).all fun c => match ix.getD c none with
    | none => true
    | some i => (He.Fa.cls (cn.getD c "Made")).ok K && ((He.Fa.noat (cn.getD c "Made") f).ok K && (decide ((cf.getD c [])[i]? = some f) && decide (cf.getD c []).Nodup))) &&
  (cs.all fun c => L2.xfB K (He.ga K (en.getD c "DrawError")) && (He.eqO (PySem.W.findIn K (.ref (He.ga K (en.getD c "DrawError"))) f) (some none) && decide (ef.getD c "step" = f)))
section
variable {P : Program} {w : World} {K : PySem.W.Frag} {mg : Str → Option Value} {base : Heap} {en ef cn : List Str} {cf : List (List Str)}
theorem att_of {f : Str} {ix : List (Option Nat)} {cs : List Nat} (h : attB K cn cf en ef f ix cs = true) : AttF (mkF P w K mg base en ef cn cf) f ix cs := by
  obtain ⟨h1, h2⟩ := ba h
  refine ⟨fun c i e => ?_, fun c e => ?_⟩
  · have hc : c < ix.length := by
      rw [List.getD_eq_getElem?_getD] at e
      cases q : ix[c]? with
      | none => rw [q] at e; cases e
      | some z => exact (List.getElem?_eq_some_iff.mp q).1
    have z := List.all_eq_true.mp h1 c (List.mem_range.mpr hc)
    rw [e] at z
    obtain ⟨z1, z⟩ := ba z
    obtain ⟨z2, z⟩ := ba z
    obtain ⟨z3, z4⟩ := ba z
    exact ⟨He.cls_ok z1, He.noat_ok z2, of_decide_eq_true z3, of_decide_eq_true z4⟩
  · have hm : c ∈ cs := by simpa using e
    obtain ⟨z1, z⟩ := ba (List.all_eq_true.mp h2 c hm)
    obtain ⟨z2, z3⟩ := ba z
    exact ⟨L2.xfB_ok z1, He.eqO_ok z2, of_decide_eq_true z3⟩
end

/-! ### an exception class of one field -/
def oexB (K : PySem.W.Frag) (C : Addr) : Bool := match K.lookup C with
  | some ⟨.type "type", _, .cls cd, sl⟩ => (match cd.mro, sl.toList with
    | .ref C' :: bm, [_, _, _, _, some (.builtin n), _] => C' == C && (n == "ValueError.__new__" && (!cd.hasDel && (cd.hasDict && PySem.HandSPX.refsVE bm)))
    | _, _ => false)
  | _ => false
theorem oexB_ok {K : PySem.W.Frag} {C : Addr} (q : oexB K C = true) : ∃ nm q N bs bm sn sub ab col dd k0 k1 k2 k3 k5, K.lookup C = some (excClassObj nm q C N bs bm true sn sub ab col dd k0 k1 k2 k3 k5 "ValueError.__new__") ∧ PySem.HandSPX.refsVE bm = true := by
  unfold oexB at q
  split at q
  · rename_i dd cd sl ho
    split at q
    · rename_i C' bm k0 k1 k2 k3 n k5 hm hs
      simp only [Bool.and_eq_true, beq_iff_eq, Bool.not_eq_true'] at q
      obtain ⟨rfl, rfl, hdel, hd, hr⟩ := q
      obtain ⟨nm, bs, mro, ns, qn, hd2, sn, sub, ab, col, del⟩ := cd
      dsimp only at hm hdel hd
      subst hm hdel hd
      have hsl : sl = #[k0, k1, k2, k3, some (.builtin "ValueError.__new__"), k5] := by
        obtain ⟨l⟩ := sl
        simp only at hs
        rw [hs]
      subst hsl
      exact ⟨nm, qn, ns, bs, bm, sn, sub, ab, col, dd, k0, k1, k2, k3, k5, ho, hr⟩
    · cases q
  · cases q
/-- a body «self.f = p» -/
inductive Ini1 (X : Cx) : List Stmt → Str → Prop
  | mk {o v : Expr} {f : Str} {pos pos' : Pos} (ho : PE X o (tVar 0)) (hv : PE X v (tVar 1)) (hs : swapsWith v (some (.Attribute o f pos')) pos.line X.env = pure false) : Ini1 X [.Assign [.Attribute o f pos'] v pos] f
theorem ini1_run {X : Cx} : ∀ {sts : List Stmt} {f : Str}, Ini1 X sts f → PSs X sts (fun De σ H => ∃ (a C : Addr) (y : V), σ[1]? = some (some y) ∧ σ[0]? = some (some (.ref a)) ∧ OexC X.K C ∧ PySem.W.findIn X.K (.ref C) f = some none ∧ H a = some (exo a C none) ∧
    ∀ dx, H dx = none → dx ≠ a → De.nx σ (upd (upd H dx (exd dx [(f, y)])) a (exo a C (some dx))))
  | _, _, .mk ho hv hs => PSs.of (pss_cons (ps_ost ho hv hs) pss_nil) fun De σ H ⟨a, C, y, h1, h2, h3, h4, h5, h6⟩ => ⟨y, h1, .ref a, h2, a, C, rfl, h3, h4, .inl ⟨h5, fun dx n ne => h6 dx n ne⟩⟩
theorem ini1_ok {F : Fx} {fI : Addr} {fd : FuncData} {x qual f : Str} {params : Arguments} {body : List Stmt} {scope : Scope} {s p : Str} (Fd : FunD F.T.K x qual params body scope [] [] fI fd) (S : FnScope [s, p] [s, p] scope)
    (hb : ∀ X : Cx, Gx X F [s, p] scope → Ini1 X body f) : FnOk F.P F.w F.T.K F.T.mg F.base CX0 1 fI fd [s, p] (spInit F.T.K f) := by
  refine FnOk.imp (calm0 (sp := spInit F.T.K f) ?_) fun vs H Q E h => h
  refine Fd.ok S (fun vs H Q E ⟨a, C, y, h1, _⟩ => by rw [h1]; rfl) fun cdv A outer st H vs Q E hr ⟨a, C, y, h1, h2, h3, h4, h5⟩ => ?_
  subst h1
  exact ⟨_, ini1_run (hb _ ⟨rfl, rfl, rfl, rfl, rfl, rfl, S.nd, rfl⟩), a, C, y, rfl, rfl, h2, h3, h4, fun dx n ne => h5 dx n ne⟩
def rz1B (K : PySem.W.Frag) (x f : Str) : Bool :=
  oexB K (He.ga K x) && (He.eqO (PySem.W.findIn K (.ref (He.ga K x)) "__setattr__") (some (some (.builtin "object.__setattr__"))) && (optB (PySem.W.subIn K (.ref (He.ga K x)) (.type "BaseException")) true && (He.eqO ((PySem.W.typeIn K (.ref (He.ga K x))).map some) (some (some (.type "type"))) && (PySem.W.keepIn K (.ref (He.ga K x)) &&
  (He.eqO (PySem.W.findIn K (.ref (He.ga K x)) f) (some none) && (He.eqO (PySem.W.findIn K (.ref (He.ga K x)) "__init__") (some (some (.ref (He.ma K (He.ga K x) "__init__")))) && He.eqO ((PySem.W.typeIn K (.ref (He.ma K (He.ga K x) "__init__"))).map some) (some (some (.type "function")))))))))
theorem tyO {o : Option Value} {v : Value} (h : He.eqO (o.map some) (some (some v)) = true) : o = some v := by
  obtain ⟨u, q1, q2⟩ := Option.map_eq_some_iff.mp (He.eqO_ok h)
  rw [q1, Option.some.inj q2]
section
variable {P : Program} {w : World} {K : PySem.W.Frag} {mg : Str → Option Value} {base : Heap} {en ef cn : List Str} {cf : List (List Str)}
theorem rz1_of {x f : Str} {c : Nat} (h : rz1B K x f = true) (hm : mg x = some (.ref (He.ga K x))) (hc : en.getD c "DrawError" = x) (hf : ef.getD c "step" = f) {fd : FuncData} {n qual s p : Str} {params : Arguments} {body : List Stmt} {scope : Scope}
    (Fd : FunD K n qual params body scope [] [] (He.ma K (He.ga K x) "__init__") fd) (S : FnScope [s, p] [s, p] scope) (hb : ∀ X : Cx, Gx X (mkF P w K mg base en ef cn cf) [s, p] scope → Ini1 X body f) (bd : Binds K fd [s, p] []) : Rz1 (mkF P w K mg base en ef cn cf) x c := by
  obtain ⟨h1, h⟩ := ba h
  obtain ⟨h2, h⟩ := ba h
  obtain ⟨h3, h⟩ := ba h
  obtain ⟨h4, h⟩ := ba h
  obtain ⟨h5, h⟩ := ba h
  obtain ⟨h6, h⟩ := ba h
  obtain ⟨h7, h8⟩ := ba h
  have e : (mkF P w K mg base en ef cn cf).T.eA c = He.ga K x := by show He.ga K (en.getD c "DrawError") = _; rw [hc]
  have e2 : (mkF P w K mg base en ef cn cf).T.eF c = f := hf
  refine ⟨by rw [e]; exact hm, ?_, by rw [e, e2]; exact He.eqO_ok h6, ?_⟩
  · rw [e]
    exact ⟨oexB_ok h1, He.eqO_ok h2, optB_ok h3, tyO h4, h5⟩
  · rw [e, e2]
    exact ⟨_, fd, [s, p], He.eqO_ok h7, tyO h8, ini1_ok (F := mkF P w K mg base en ef cn cf) Fd S hb, bd⟩
end
end TT
end
section
set_option maxRecDepth 100000
set_option maxHeartbeats 400000
/-! U20: data functions of told data, computed. -/
namespace TT
open PySem PySem.Spec L2
@[simp] theorem u20_1 {sub : Nat → Nat → Bool}  : isQ sub (.fr .non) .str = some false := rfl
@[simp] theorem u20_2 {sub : Nat → Nat → Bool}  : isQ sub (.fr .non) .int = some false := rfl
@[simp] theorem u20_3 {sub : Nat → Nat → Bool}  : isQ sub (.fr .non) .bool = some false := rfl
@[simp] theorem u20_4 {sub : Nat → Nat → Bool}  : isQ sub (.fr .non) .list = some false := rfl
@[simp] theorem u20_5 {sub : Nat → Nat → Bool}  : isQ sub (.fr .non) .tuple = some false := rfl
@[simp] theorem u20_8 {sub : Nat → Nat → Bool} {b : Bool} : isQ sub (.fr (.bl b)) .str = some false := rfl
@[simp] theorem u20_9 {sub : Nat → Nat → Bool} {b : Bool} : isQ sub (.fr (.bl b)) .int = some true := rfl
@[simp] theorem u20_10 {sub : Nat → Nat → Bool} {b : Bool} : isQ sub (.fr (.bl b)) .bool = some true := rfl
@[simp] theorem u20_11 {sub : Nat → Nat → Bool} {b : Bool} : isQ sub (.fr (.bl b)) .list = some false := rfl
@[simp] theorem u20_12 {sub : Nat → Nat → Bool} {b : Bool} : isQ sub (.fr (.bl b)) .tuple = some false := rfl
@[simp] theorem u20_15 {sub : Nat → Nat → Bool} {i : Int} : isQ sub (.fr (.int i)) .str = some false := rfl
@[simp] theorem u20_16 {sub : Nat → Nat → Bool} {i : Int} : isQ sub (.fr (.int i)) .int = some true := rfl
@[simp] theorem u20_17 {sub : Nat → Nat → Bool} {i : Int} : isQ sub (.fr (.int i)) .bool = some false := rfl
@[simp] theorem u20_18 {sub : Nat → Nat → Bool} {i : Int} : isQ sub (.fr (.int i)) .list = some false := rfl
@[simp] theorem u20_19 {sub : Nat → Nat → Bool} {i : Int} : isQ sub (.fr (.int i)) .tuple = some false := rfl
@[simp] theorem u20_22 {sub : Nat → Nat → Bool} {s : Str} : isQ sub (.fr (.str s)) .str = some true := rfl
@[simp] theorem u20_23 {sub : Nat → Nat → Bool} {s : Str} : isQ sub (.fr (.str s)) .int = some false := rfl
@[simp] theorem u20_24 {sub : Nat → Nat → Bool} {s : Str} : isQ sub (.fr (.str s)) .bool = some false := rfl
@[simp] theorem u20_25 {sub : Nat → Nat → Bool} {s : Str} : isQ sub (.fr (.str s)) .list = some false := rfl
@[simp] theorem u20_26 {sub : Nat → Nat → Bool} {s : Str} : isQ sub (.fr (.str s)) .tuple = some false := rfl
@[simp] theorem u20_29 {sub : Nat → Nat → Bool} {xs : List D} : isQ sub (.fr (.lst xs)) .str = some false := rfl
@[simp] theorem u20_30 {sub : Nat → Nat → Bool} {xs : List D} : isQ sub (.fr (.lst xs)) .int = some false := rfl
@[simp] theorem u20_31 {sub : Nat → Nat → Bool} {xs : List D} : isQ sub (.fr (.lst xs)) .bool = some false := rfl
@[simp] theorem u20_32 {sub : Nat → Nat → Bool} {xs : List D} : isQ sub (.fr (.lst xs)) .list = some true := rfl
@[simp] theorem u20_33 {sub : Nat → Nat → Bool} {xs : List D} : isQ sub (.fr (.lst xs)) .tuple = some false := rfl
@[simp] theorem u20_36 {sub : Nat → Nat → Bool} {xs : List D} : isQ sub (.fr (.tup xs)) .str = some false := rfl
@[simp] theorem u20_37 {sub : Nat → Nat → Bool} {xs : List D} : isQ sub (.fr (.tup xs)) .int = some false := rfl
@[simp] theorem u20_38 {sub : Nat → Nat → Bool} {xs : List D} : isQ sub (.fr (.tup xs)) .bool = some false := rfl
@[simp] theorem u20_39 {sub : Nat → Nat → Bool} {xs : List D} : isQ sub (.fr (.tup xs)) .list = some false := rfl
@[simp] theorem u20_40 {sub : Nat → Nat → Bool} {xs : List D} : isQ sub (.fr (.tup xs)) .tuple = some true := rfl
@[simp] theorem u20_43 {sub : Nat → Nat → Bool} {c e : Nat} {xs : List D} : isQ sub (.fr (.exc c xs)) (.exc e) = some (sub c e) := rfl
@[simp] theorem u20_44 {sub : Nat → Nat → Bool} {c : Nat} {xs : List D} : isQ sub (.fr (.exc c xs)) .vErr = some true := rfl
@[simp] theorem u20_45 {sub : Nat → Nat → Bool} {xs : List D} : isQ sub (.own xs) .str = some false := rfl
@[simp] theorem u20_46 {sub : Nat → Nat → Bool} {xs : List D} : isQ sub (.own xs) .int = some false := rfl
@[simp] theorem u20_47 {sub : Nat → Nat → Bool} {xs : List D} : isQ sub (.own xs) .bool = some false := rfl
@[simp] theorem u20_48 {sub : Nat → Nat → Bool} {xs : List D} : isQ sub (.own xs) .list = some true := rfl
@[simp] theorem u20_49 {sub : Nat → Nat → Bool} {xs : List D} : isQ sub (.own xs) .tuple = some false := rfl
@[simp] theorem u20_50 {sub : Nat → Nat → Bool} {xs : List D} : isQ sub (.bor xs) .str = some false := rfl
@[simp] theorem u20_51 {sub : Nat → Nat → Bool} {xs : List D} : isQ sub (.bor xs) .int = some false := rfl
@[simp] theorem u20_52 {sub : Nat → Nat → Bool} {xs : List D} : isQ sub (.bor xs) .bool = some false := rfl
@[simp] theorem u20_53 {sub : Nat → Nat → Bool} {xs : List D} : isQ sub (.bor xs) .list = some true := rfl
@[simp] theorem u20_54 {sub : Nat → Nat → Bool} {xs : List D} : isQ sub (.bor xs) .tuple = some false := rfl
@[simp] theorem u20_55  : tru (.fr .non) = some false := rfl
@[simp] theorem u20_56 {b : Bool} : tru (.fr (.bl b)) = some b := rfl
@[simp] theorem u20_57 {i : Int} : tru (.fr (.int i)) = some (i != 0) := rfl
@[simp] theorem u20_58 {s : Str} : tru (.fr (.str s)) = if s.length ≤ sizeLine then some (s.length != 0) else none := rfl
@[simp] theorem u20_59 {xs : List D} : tru (.fr (.lst xs)) = some !xs.isEmpty := rfl
@[simp] theorem u20_60 {xs : List D} : tru (.fr (.tup xs)) = some !xs.isEmpty := rfl
@[simp] theorem u20_61 {xs : List D} : tru (.own xs) = some !xs.isEmpty := rfl
@[simp] theorem u20_62 {xs : List D} : tru (.bor xs) = some !xs.isEmpty := rfl
@[simp] theorem e_lenL {xs : List D} : bLen [.fr (.lst xs)] = some (.fr (.int (xs.length : Nat))) := rfl
@[simp] theorem u20_64 {xs : List D} : asSq (.fr (.lst xs)) = some xs := rfl
@[simp] theorem u20_65 {xs : List D} : itemsS (.fr (.lst xs)) = some xs := rfl
@[simp] theorem u20_66 {xs : List D} {i : Int} : fIdx (.fr (.lst xs)) (.fr (.int i)) = (atI xs i).map fun d => .fr d := rfl
@[simp] theorem u20_67 {xs : List D} {a b : Option Int} : fSlc (.fr (.lst xs)) a b = some (.own (cutD xs a b)) := rfl
@[simp] theorem u20_68 {xs : List D} : asL (.fr (.lst xs)) = some xs := rfl
@[simp] theorem e_lenT {xs : List D} : bLen [.fr (.tup xs)] = some (.fr (.int (xs.length : Nat))) := rfl
@[simp] theorem u20_70 {xs : List D} : asSq (.fr (.tup xs)) = some xs := rfl
@[simp] theorem u20_71 {xs : List D} : itemsS (.fr (.tup xs)) = some xs := rfl
@[simp] theorem u20_72 {xs : List D} {i : Int} : fIdx (.fr (.tup xs)) (.fr (.int i)) = (atI xs i).map fun d => .fr d := rfl
@[simp] theorem u20_73 {xs : List D} {a b : Option Int} : fSlc (.fr (.tup xs)) a b = some (.fr (.tup (cutD xs a b))) := rfl
@[simp] theorem e_lenO {xs : List D} : bLen [.own xs] = some (.fr (.int (xs.length : Nat))) := rfl
@[simp] theorem u20_75 {xs : List D} : asSq (.own xs) = some xs := rfl
@[simp] theorem u20_76 {xs : List D} : itemsS (.own xs) = some xs := rfl
@[simp] theorem u20_77 {xs : List D} {i : Int} : fIdx (.own xs) (.fr (.int i)) = (atI xs i).map fun d => .fr d := rfl
@[simp] theorem u20_78 {xs : List D} {a b : Option Int} : fSlc (.own xs) a b = some (.own (cutD xs a b)) := rfl
@[simp] theorem u20_79 {xs : List D} : asL (.own xs) = some xs := rfl
@[simp] theorem e_lenB {xs : List D} : bLen [.bor xs] = some (.fr (.int (xs.length : Nat))) := rfl
@[simp] theorem u20_81 {xs : List D} : asSq (.bor xs) = some xs := rfl
@[simp] theorem u20_82 {xs : List D} : itemsS (.bor xs) = some xs := rfl
@[simp] theorem u20_83 {xs : List D} {i : Int} : fIdx (.bor xs) (.fr (.int i)) = (atI xs i).map fun d => .fr d := rfl
@[simp] theorem u20_84 {xs : List D} {a b : Option Int} : fSlc (.bor xs) a b = some (.own (cutD xs a b)) := rfl
@[simp] theorem u20_85 {xs : List D} : asL (.bor xs) = some xs := rfl
@[simp] theorem u20_86 {xs : List D} : asL (.fr (.tup xs)) = none := rfl
@[simp] theorem u20_87 {s : Str} : bLen [.fr (.str s)] = if s.length ≤ sizeLine then some (.fr (.int (s.length : Nat))) else none := rfl
@[simp] theorem u20_88 {s : Str} {i : Int} : fIdx (.fr (.str s)) (.fr (.int i)) = if s.length ≤ sizeLine then (atI s.cps.toList i).map fun c => .fr (.str ⟨#[c]⟩) else none := rfl
@[simp] theorem u20_89 {s : Str} {a b : Option Int} : fSlc (.fr (.str s)) a b = if s.length ≤ sizeLine then some (.fr (.str (cutS s a b))) else none := rfl
@[simp] theorem u20_90 {s : Str} : itemsS (.fr (.str s)) = some (signs s) := rfl
@[simp] theorem u20_91 {xs : List D} : itemsD (.lst xs) = some xs := rfl
@[simp] theorem u20_92 {xs : List D} : itemsD (.tup xs) = some xs := rfl
@[simp] theorem u20_93 {s : Str} : itemsD (.str s) = some (signs s) := rfl
@[simp] theorem u20_94 {i : Int} : bAbs [.fr (.int i)] = some (.fr (.int (if i < 0 then -i else i))) := rfl
@[simp] theorem u20_95 {xs : List D} : bList [.fr (.lst xs)] = some (.own xs) := rfl
@[simp] theorem u20_96 {xs : List D} : bTup [.fr (.lst xs)] = some (.fr (.tup xs)) := rfl
@[simp] theorem u20_97 {xs : List D} : bList [.own xs] = some (.own xs) := rfl
@[simp] theorem u20_98 {xs : List D} : bTup [.own xs] = some (.fr (.tup xs)) := rfl
@[simp] theorem u20_99 {xs : List D} : bList [.bor xs] = some (.own xs) := rfl
@[simp] theorem u20_100 {xs : List D} : bTup [.bor xs] = some (.fr (.tup xs)) := rfl
@[simp] theorem u20_101 {xs : List D} : bList [.fr (.tup xs)] = some (.own xs) := rfl
@[simp] theorem u20_102 {xs : List D} : bTup [.fr (.tup xs)] = some (.fr (.tup xs)) := rfl
@[simp] theorem u20_103 {i : Int} : bIntX [.fr (.int i)] = some (.fr (.int i)) := rfl
@[simp] theorem u20_104 {b : Bool} : bIntX [.fr (.bl b)] = some (.fr (.int (if b then 1 else 0))) := rfl
@[simp] theorem u20_105 {i : Int} : bStr [.fr (.int i)] = if i.natAbs.log2 < 1920 then some (.fr (.str (toString i : String))) else none := rfl
@[simp] theorem u20_106 {ix : List (Option Nat)} {cs : List Nat} {c : Nat} {d : D} : fAtt ix cs (.fr (.exc c [d])) = if cs.contains c then some (.fr d) else none := rfl
@[simp] theorem u20_107 {ix : List (Option Nat)} {cs : List Nat} {c : Nat} {ds : List D} : fAtt ix cs (.fr (.ins c ds)) = (ix.getD c none).bind fun i => ds[i]?.map .fr := rfl
@[simp] theorem u20_108 {s z : Str} : mStarts (.fr (.str s)) [.fr (.str z)] = some (.fr (.bl (Txt.startswith s z))) := rfl
@[simp] theorem u20_109 {a b : Str} : mSplit (.fr (.str a)) [.fr (.str b)] = if 0 < b.length ∧ a.length ≤ 1000000 then some (.own ((Txt.split a b).map D.str)) else none := rfl
@[simp] theorem u20_110 {x : List D} : strsOf ([] : List D) = some [] := rfl
@[simp] theorem u20_111 {s : Str} {xs : List D} : strsOf (.str s :: xs) = (strsOf xs).map (s :: ·) := rfl
@[simp] theorem u20_112  : fIs (.fr .non) (.fr .non) = some (.fr (.bl true)) := rfl
@[simp] theorem u20_113  : fIsNot (.fr .non) (.fr .non) = some (.fr (.bl false)) := rfl
@[simp] theorem u20_114 {b : Bool} : fIs (.fr (.bl b)) (.fr .non) = some (.fr (.bl false)) := rfl
@[simp] theorem u20_115 {b : Bool} : fIsNot (.fr (.bl b)) (.fr .non) = some (.fr (.bl true)) := rfl
@[simp] theorem u20_116 {i : Int} : fIs (.fr (.int i)) (.fr .non) = some (.fr (.bl false)) := rfl
@[simp] theorem u20_117 {i : Int} : fIsNot (.fr (.int i)) (.fr .non) = some (.fr (.bl true)) := rfl
@[simp] theorem u20_118 {s : Str} : fIs (.fr (.str s)) (.fr .non) = some (.fr (.bl false)) := rfl
@[simp] theorem u20_119 {s : Str} : fIsNot (.fr (.str s)) (.fr .non) = some (.fr (.bl true)) := rfl
@[simp] theorem u20_120 {xs : List D} : fIs (.fr (.lst xs)) (.fr .non) = some (.fr (.bl false)) := rfl
@[simp] theorem u20_121 {xs : List D} : fIsNot (.fr (.lst xs)) (.fr .non) = some (.fr (.bl true)) := rfl
@[simp] theorem u20_122 {xs : List D} : fIs (.fr (.tup xs)) (.fr .non) = some (.fr (.bl false)) := rfl
@[simp] theorem u20_123 {xs : List D} : fIsNot (.fr (.tup xs)) (.fr .non) = some (.fr (.bl true)) := rfl
@[simp] theorem u20_124 {c : Nat} {xs : List D} : fIs (.fr (.exc c xs)) (.fr .non) = some (.fr (.bl false)) := rfl
@[simp] theorem u20_125 {c : Nat} {xs : List D} : fIsNot (.fr (.exc c xs)) (.fr .non) = some (.fr (.bl true)) := rfl
@[simp] theorem u20_126 {c : Nat} {xs : List D} : fIs (.fr (.ins c xs)) (.fr .non) = some (.fr (.bl false)) := rfl
@[simp] theorem u20_127 {c : Nat} {xs : List D} : fIsNot (.fr (.ins c xs)) (.fr .non) = some (.fr (.bl true)) := rfl
@[simp] theorem u20_128 {xs : List D} : fIs (.own xs) (.fr .non) = some (.fr (.bl false)) := rfl
@[simp] theorem u20_129 {xs : List D} : fIsNot (.own xs) (.fr .non) = some (.fr (.bl true)) := rfl
@[simp] theorem u20_130 {xs : List D} : fIs (.bor xs) (.fr .non) = some (.fr (.bl false)) := rfl
@[simp] theorem u20_131 {xs : List D} : fIsNot (.bor xs) (.fr .non) = some (.fr (.bl true)) := rfl
@[simp] theorem atI_zero {α : Type} (x : α) (xs : List α) : atI (x :: xs) 0 = some x := at_zero x xs
@[simp] theorem e_cutT {α : Type} (x : α) (xs : List α) : cutD (x :: xs) (some 1) none = xs := cut_tail x xs
theorem atI_nat {α : Type} (xs : List α) (n : Nat) : atI xs (n : Int) = xs[n]? := by
  unfold atI ixN
  by_cases h : n < xs.length
  · rw [if_pos (by omega), if_pos (by omega)]; simp
  · rw [if_pos (by omega), if_neg (by omega), List.getElem?_eq_none (by omega)]; rfl
theorem atI_lt {α : Type} (xs : List α) (i : Int) (h : 0 ≤ i) (h2 : i < xs.length) : ∃ x, atI xs i = some x ∧ xs[i.toNat]? = some x ∧ x ∈ xs := by
  have hl : i.toNat < xs.length := by omega
  refine ⟨xs[i.toNat], ?_, by simp [hl], List.getElem_mem _⟩
  have := atI_nat xs i.toNat
  rw [show ((i.toNat : Nat) : Int) = i by omega] at this
  rw [this]; simp [hl]
theorem runG_ret {n : Nat} {ex : Ex} {as : List Sl} {δ : Dl} {r : Sl} (h : ex (startD n as) = some (.ret δ r)) (ho : outOk r = true) : runG n ex as = ok r := by
  unfold runG; rw [h]; exact if_pos ho
theorem runG_exc {n : Nat} {ex : Ex} {as : List Sl} {δ : Dl} {c : Nat} {xs : List D} (h : ex (startD n as) = some (.exc δ c xs)) : runG n ex as = some (.exc c xs) := by
  unfold runG; rw [h]
@[simp] theorem rg_ret {δ : Dl} {r : Sl} : (match (some (.ret δ r) : SR) with
  | some (.nx _) => ok (.fr .non)
  | some (.ret _ r) => if outOk r = true then ok r else none
  | some (.exc _ c xs) => some (.exc c xs)
  | none => none) = if outOk r = true then ok r else none := rfl
end TT
end
section
set_option maxRecDepth 100000
set_option maxHeartbeats 400000
/-! U21: what a text does to data, step by step. -/
namespace TT
open PySem PySem.Spec L2
def wpX (r : SR) (N : Dl → Prop) (R : Sl → Prop) (E : Dl → Nat → List D → Prop) : Prop := match r with
  | some (.nx δ) => N δ
  | some (.ret _ r) => outOk r = true ∧ R r
  | some (.exc δ c xs) => E δ c xs
  | none => False
section
variable {N : Dl → Prop} {R : Sl → Prop} {E : Dl → Nat → List D → Prop}
@[simp] theorem wpX_nx {δ : Dl} : wpX (some (.nx δ)) N R E = N δ := rfl
@[simp] theorem wpX_ret {δ : Dl} {r : Sl} : wpX (some (.ret δ r)) N R E = (outOk r = true ∧ R r) := rfl
@[simp] theorem wpX_exc {δ : Dl} {c : Nat} {xs : List D} : wpX (some (.exc δ c xs)) N R E = E δ c xs := rfl
theorem wpX_thenX {r : SR} {b : Ex} : wpX (thenX r b) N R E = wpX r (fun δ => wpX (b δ) N R E) R E := by
  cases r with
  | none => rfl
  | some o => cases o <;> rfl
theorem wpX_ite {c : Prop} [Decidable c] {a b : SR} : wpX (if c then a else b) N R E = if c then wpX a N R E else wpX b N R E := by
  split <;> rfl
theorem wpX_imp {r : SR} {N' : Dl → Prop} (h : wpX r N R E) (k : ∀ δ, N δ → N' δ) : wpX r N' R E := by
  cases r with
  | none => exact h
  | some o => cases o with
    | nx δ => exact k _ h
    | ret δ r => exact h
    | exc δ c xs => exact h
/-- one statement; the rest stays shut -/
theorem wp_seq {a b : Ex} {δ : Dl} (h : ∀ K : Dl → Prop, (∀ δ', wpX (b δ') N R E → K δ') → wpX (a δ) K R E) : wpX (xSeq a b δ) N R E := by
  rw [e_xSeq, wpX_thenX]
  exact h _ fun δ' z => z
theorem wp_nil {δ : Dl} (h : N δ) : wpX (xNil δ) N R E := h
/-- branches -/
theorem wp_if {t : Ev Bool} {a b : Ex} {δ : Dl} {c : Bool} (e : t δ = ok c) (h1 : c = true → wpX (a δ) N R E) (h2 : c = false → wpX (b δ) N R E) : wpX (xIf t a b δ) N R E := by
  rw [e_xIf, e]
  cases c with
  | true => exact h1 rfl
  | false => exact h2 rfl
/-- what a def tells -/
theorem wp_run {n : Nat} {ex : Ex} {as : List Sl} {Q : Sl → Prop} (h : ∀ (R : Sl → Prop) (E : Dl → Nat → List D → Prop), (∀ r, Q r → R r) → wpX (ex (startD n as)) (fun _ => Q (.fr .non)) R E) : ∃ r, runG n ex as = ok r ∧ outOk r = true ∧ Q r := by
  have h := h Q (fun _ _ _ => False) (fun _ q => q)
  unfold runG
  cases e : ex (startD n as) with
  | none => rw [e] at h; exact h.elim
  | some o =>
    rw [e] at h
    cases o with
    | nx δ => exact ⟨_, rfl, rfl, h⟩
    | ret δ r => exact ⟨r, if_pos h.1, h.1, h.2⟩
    | exc δ c xs => exact h.elim
theorem wp_ok {n : Nat} {ex : Ex} {as : List Sl} {r : Sl} (h : ∀ (N : Dl → Prop) (R : Sl → Prop) (E : Dl → Nat → List D → Prop), R r → wpX (ex (startD n as)) N R E) : runG n ex as = ok r := by
  have h := h (fun _ => False) (fun x => x = r) (fun _ _ _ => False) rfl
  unfold runG
  cases e : ex (startD n as) with
  | none => rw [e] at h; exact h.elim
  | some o =>
    rw [e] at h
    cases o with
    | nx δ => exact h.elim
    | ret δ r' => obtain ⟨h1, rfl⟩ := h; exact if_pos h1
    | exc δ c xs => exact h.elim
theorem wp_exc {n : Nat} {ex : Ex} {as : List Sl} {c : Nat} {xs : List D} (h : ∀ (N : Dl → Prop) (R : Sl → Prop) (E : Dl → Nat → List D → Prop), (∀ δ, E δ c xs) → wpX (ex (startD n as)) N R E) : runG n ex as = some (.exc c xs) := by
  have h := h (fun _ => False) (fun _ => False) (fun _ c' xs' => c' = c ∧ xs' = xs) (fun _ => ⟨rfl, rfl⟩)
  unfold runG
  cases e : ex (startD n as) with
  | none => rw [e] at h; exact h.elim
  | some o =>
    rw [e] at h
    cases o with
    | nx δ => exact h.elim
    | ret δ r' => exact h.2.elim
    | exc δ c xs => obtain ⟨rfl, rfl⟩ := h; rfl
/-- a loop: what holds ahead of each turn; a turn may leave -/
theorem wp_for {src : Src} {i : Nat} {body : Ex} {ds : List D} {δ : Dl} (P : Nat → Dl → Prop) (e : src δ = ok ds) (h0 : P 0 δ)
    (ht : ∀ j d δ, ds[j]? = some d → P j δ → i < δ.length ∧ ∀ K : Dl → Prop, (∀ δ', P (j + 1) δ' → K δ') → wpX (body (δ.set i (.fr d))) K R E)
    (hN : ∀ δ, P ds.length δ → N δ) : wpX (xFor src (.one i) body δ) N R E := by
  rw [e_xFor, e]
  show wpX (forD (.one i) body ds δ) N R E
  have key : ∀ (l : List D) (k : Nat) (δ : Dl), (∀ j, l[j]? = ds[k + j]?) → k + l.length = ds.length → P k δ → wpX (forD (.one i) body l δ) N R E := fun l => by
    induction l with
    | nil => intro k δ _ hl p; exact hN δ (by have : k = ds.length := by simpa using hl
                                              rw [← this]; exact p)
    | cons d l ih =>
      intro k δ hk hl p
      obtain ⟨hi, w⟩ := ht k d δ (by have := hk 0; simp at this; exact this.symm) p
      unfold forD
      rw [e_put, if_pos hi]
      show wpX (thenX (body (δ.set i (.fr d))) _) N R E
      rw [wpX_thenX]
      exact w _ fun δ' p' => ih (k + 1) δ' (fun j => by have := hk (j + 1); simp at this; rw [this]; congr 1; omega) (by simp at hl; omega) p'
  exact key ds 0 δ (fun j => by simp) (by simp) h0
end
end TT
end
section
set_option maxRecDepth 100000
set_option maxHeartbeats 4000000
namespace TT.K82
open PySem PySem.Spec PyProof.Rows L2 TT
def top (i : Nat) : Stmt := PySem.Challenge.pw_everydraw_k82_sayings_written_down.main.body.getD i (.Pass ⟨0, 0, 0, 0⟩)
def excNames : List PySem.Str := ["DrawError", "NoBottom", "BadPlace", "BadSaying", "TooMany", "BadChain", "NoName", "BadName", "NoLine", "NoStep", "BadStep", "BadThing", "TooFree", "TooDeep", "BadKnown", "CantMake", "NoText"]
def excF : List PySem.Str := ["", "", "", "", "", "", "", "", "", "", "step", "step", "step", "step", "step", "step", "line"]
def clsN : List PySem.Str := []
def clsF : List (List PySem.Str) := []
def subT : List (List Bool) := [[true, false, false, false, false, false, false, false, false, false, false, false, false, false, false, false, false], [true, true, false, false, false, false, false, false, false, false, false, false, false, false, false, false, false], [true, false, true, false, false, false, false, false, false, false, false, false, false, false, false, false, false], [true, false, false, true, false, false, false, false, false, false, false, false, false, false, false, false, false], [true, false, false, false, true, false, false, false, false, false, false, false, false, false, false, false, false], [true, false, false, false, false, true, false, false, false, false, false, false, false, false, false, false, false], [true, false, false, false, false, false, true, false, false, false, false, false, false, false, false, false, false], [true, false, false, false, false, false, false, true, false, false, false, false, false, false, false, false, false], [true, false, false, false, false, false, false, false, true, false, false, false, false, false, false, false, false], [true, false, false, false, false, false, false, false, false, true, false, false, false, false, false, false, false], [true, false, false, false, false, false, false, false, false, false, true, false, false, false, false, false, false], [true, false, false, false, false, false, false, false, false, false, false, true, false, false, false, false, false], [true, false, false, false, false, false, false, false, false, false, false, false, true, false, false, false, false], [true, false, false, false, false, false, false, false, false, false, false, false, false, true, false, false, false], [true, false, false, false, false, false, false, false, false, false, false, false, false, false, true, false, false], [true, false, false, false, false, false, false, false, false, false, false, false, false, false, false, true, false], [true, false, false, false, false, false, false, false, false, false, false, false, false, false, false, false, true]]
def sub (c e : Nat) : Bool := (subT.getD (if c < 17 then c else 0) []).getD (if e < 17 then e else 0) false
def t_SAYINGS : List (PySem.Str × D) := [("inline", .str "ppp"), ("one", .str "lll"), ("on", .str "pw"), ("aside", .str "ll"), ("asquare", .str "ll"), ("same", .str "pp"), ("sameline", .str "ll"), ("far", .str "pppp"), ("areas", .str "pppppp"), ("ring", .str "pppp"), ("angles", .str "pppppp"), ("evenpair", .str "pppp"), ("touches", .str "lc"), ("touching", .str "cc"), ("squareround", .str "cc"), ("evenround", .str "cc")]
def ix_line : List (Option Nat) := []
def cs_line : List Nat := [16]
/-- what the text's top says -/
structure Facts (F : Fx) : Prop where
  E : ExF F.T sub
  nb_ValueError : F.T.mg "ValueError" = none
  nb_abs : F.T.mg "abs" = none
  nb_bool : F.T.mg "bool" = none
  nb_int : F.T.mg "int" = none
  nb_isinstance : F.T.mg "isinstance" = none
  nb_len : F.T.mg "len" = none
  nb_list : F.T.mg "list" = none
  nb_min : F.T.mg "min" = none
  nb_range : F.T.mg "range" = none
  nb_set : F.T.mg "set" = none
  nb_str : F.T.mg "str" = none
  nb_tuple : F.T.mg "tuple" = none
  at_line : AttF F "line" ix_line cs_line
  ex_BadChain : F.T.mg "BadChain" = some (.ref (F.T.eA 5))
  ex_BadKnown : F.T.mg "BadKnown" = some (.ref (F.T.eA 14))
  ex_BadName : F.T.mg "BadName" = some (.ref (F.T.eA 7))
  ex_BadPlace : F.T.mg "BadPlace" = some (.ref (F.T.eA 2))
  ex_BadSaying : F.T.mg "BadSaying" = some (.ref (F.T.eA 3))
  ex_BadStep : F.T.mg "BadStep" = some (.ref (F.T.eA 10))
  ex_BadThing : F.T.mg "BadThing" = some (.ref (F.T.eA 11))
  ex_CantMake : F.T.mg "CantMake" = some (.ref (F.T.eA 15))
  ex_DrawError : F.T.mg "DrawError" = some (.ref (F.T.eA 0))
  ex_NoBottom : F.T.mg "NoBottom" = some (.ref (F.T.eA 1))
  ex_NoLine : F.T.mg "NoLine" = some (.ref (F.T.eA 8))
  ex_NoName : F.T.mg "NoName" = some (.ref (F.T.eA 6))
  ex_NoStep : F.T.mg "NoStep" = some (.ref (F.T.eA 9))
  ex_NoText : F.T.mg "NoText" = some (.ref (F.T.eA 16))
  ex_TooDeep : F.T.mg "TooDeep" = some (.ref (F.T.eA 13))
  ex_TooFree : F.T.mg "TooFree" = some (.ref (F.T.eA 12))
  ex_TooMany : F.T.mg "TooMany" = some (.ref (F.T.eA 4))
  gi_MOST_NAME : ∃ t, F.T.mg "MOST_NAME" = some (.int 8 t)
  rz_BadName : Rz0 F "BadName" 7
  rz_BadSaying : Rz0 F "BadSaying" 3
  rz_NoText : Rz1 F "NoText" 16
  gs_FIGURES : ∃ t, F.T.mg "FIGURES" = some (.str "0123456789" t)
  gs_SMALL_LETTERS : ∃ t, F.T.mg "SMALL_LETTERS" = some (.str "abcdefghijklmnopqrstuvwxyz" t)
  tb_SAYINGS : TabF F "SAYINGS" t_SAYINGS
  fd__law_names : ∃ f fd, FunD F.T.K "_law_names" "_law_names" (defArgs (top 32)) (defBody (top 32)) (defScope (top 32)) [] [] f fd ∧ F.T.mg "_law_names" = some (.ref f)
  fd__law_cell_at : ∃ f fd, FunD F.T.K "_law_cell_at" "_law_cell_at" (defArgs (top 29)) (defBody (top 29)) (defScope (top 29)) [] [] f fd ∧ F.T.mg "_law_cell_at" = some (.ref f)
  fd__law_mixed : ∃ f fd, FunD F.T.K "_law_mixed" "_law_mixed" (defArgs (top 30)) (defBody (top 30)) (defScope (top 30)) [] [] f fd ∧ F.T.mg "_law_mixed" = some (.ref f)
  fd__law_rest : ∃ f fd, FunD F.T.K "_law_rest" "_law_rest" (defArgs (top 31)) (defBody (top 31)) (defScope (top 31)) [] [] f fd ∧ F.T.mg "_law_rest" = some (.ref f)
  fd__law_said : ∃ f fd, FunD F.T.K "_law_said" "_law_said" (defArgs (top 34)) (defBody (top 34)) (defScope (top 34)) [] [] f fd ∧ F.T.mg "_law_said" = some (.ref f)
  fd__law_marks : ∃ f fd, FunD F.T.K "_law_marks" "_law_marks" (defArgs (top 35)) (defBody (top 35)) (defScope (top 35)) [] [] f fd ∧ F.T.mg "_law_marks" = some (.ref f)
  fd_is_name : ∃ f fd, FunD F.T.K "is_name" "is_name" (defArgs (top 23)) (defBody (top 23)) (defScope (top 23)) [] [] f fd ∧ F.T.mg "is_name" = some (.ref f)
  fd_look_names : ∃ f fd, FunD F.T.K "look_names" "look_names" (defArgs (top 24)) (defBody (top 24)) (defScope (top 24)) [] [] f fd ∧ F.T.mg "look_names" = some (.ref f)
  fd_is_saying : ∃ f fd, FunD F.T.K "is_saying" "is_saying" (defArgs (top 25)) (defBody (top 25)) (defScope (top 25)) [] [] f fd ∧ F.T.mg "is_saying" = some (.ref f)
  fd_shown_saying : ∃ f fd, FunD F.T.K "shown_saying" "shown_saying" (defArgs (top 26)) (defBody (top 26)) (defScope (top 26)) [] [] f fd ∧ F.T.mg "shown_saying" = some (.ref f)
  fd__law_bent : ∃ f fd, FunD F.T.K "_law_bent" "_law_bent" (defArgs (top 36)) (defBody (top 36)) (defScope (top 36)) [] [] f fd ∧ F.T.mg "_law_bent" = some (.ref f)
  fd__law_reader : ∃ f fd, FunD F.T.K "_law_reader" "_law_reader" (defArgs (top 37)) (defBody (top 37)) (defScope (top 37)) [] [] f fd ∧ F.T.mg "_law_reader" = some (.ref f)
  fd_read_saying : ∃ f fd, FunD F.T.K "read_saying" "read_saying" (defArgs (top 27)) (defBody (top 27)) (defScope (top 27)) [] [] f fd ∧ F.T.mg "read_saying" = some (.ref f)
  fd__law_alone : ∃ f fd, FunD F.T.K "_law_alone" "_law_alone" (defArgs (top 33)) (defBody (top 33)) (defScope (top 33)) [] [] f fd ∧ F.T.mg "_law_alone" = some (.ref f)
  fd__law_good : ∃ f fd, FunD F.T.K "_law_good" "_law_good" (defArgs (top 38)) (defBody (top 38)) (defScope (top 38)) [] [] f fd ∧ F.T.mg "_law_good" = some (.ref f)
  fd_law : ∃ f fd, FunD F.T.K "law" "law" (defArgs (top 39)) (defBody (top 39)) (defScope (top 39)) [] [] f fd ∧ F.T.mg "law" = some (.ref f)
/-! ### _law_names -/
def N__law_names : List PySem.Str := ["_law_rest_here", "_law_many", "_law_words", "_law_signs", "_law_names_here", "_law_k", "_law_name", "_law_size", "_law_j"]
def ce1__law_names : Ev Sl := sB fAdd (sB fAdd (sB fMulX (sC (.str "p")) (sB fAdd (sC (.int 1)) (sB fMod (sB fDiv (sVar 0) (sC (.int 21))) (sC (.int 6))))) (sB fIdx (sVar 3) (sVar 5))) (sB fMulX (sC (.str "z")) (sB fMod (sVar 5) (sC (.int 2))))
def lb1__law_names : Ex := xSeq (xSet 6 (sB fAdd (sVar 6) (sB fIdx (sVar 3) (sB fMod (sB fDiv (sVar 0) (sB fAdd (sC (.int 16)) (sB fMulX (sVar 8) (sVar 8)))) (sC (.int 36))))))
 (xSeq (xFrz 6)
 (xSeq (xFgt [8])
 (xNil)))
def lb2__law_names : Ex := xSeq (xSet 6 (sB fIdx (sVar 2) (sVar 5)))
 (xSeq (xFrz 6)
 (xSeq (xSet 7 (sB fMod (sB fDiv (sVar 0) (sC (.int 2))) (sC (.int 8))))
 (xSeq (xFrz 7)
 (xSeq (xIf (sTest (sB fEq (sB fMod (sVar 0) (sC (.int 2))) (sC (.int 1))))
 (xSeq (xSet 6 (sB fIdx (sVar 3) (sVar 5)))
 (xSeq (xFrz 6)
 (xSeq (xFor (srcR1 (sVar 7)) (.one 8)
 (lb1__law_names))
 (xNil))))
 (xNil))
 (xSeq (xMut 4 (sCons (sVar 6) (sNil)) mApp)
 (xSeq (xSet 0 (sB fAdd (sB fDiv (sVar 0) (sC (.int 11))) (sVar 5)))
 (xSeq (xFrz 0)
 (xSeq (xFgt [5, 6, 7, 8])
 (xNil)))))))))
def ex__law_names : Ex := xSeq (xSet 2 (sLst (sCons (sC (.str "ask")) (sCons (sC (.str "bound")) (sCons (sC (.str "curve")) (sCons (sC (.str "draw")) (sCons (sC (.str "even")) (sCons (sC (.str "free")) (sCons (sC (.str "gone")) (sCons (sC (.str "height")) (sCons (sC (.str "inline")) (sCons (sC (.str "joined")) (sCons (sC (.str "known")) (sCons (sC (.str "line")) (sNil)))))))))))))))
 (xSeq (xFrz 2)
 (xSeq (xSet 2 (sB fAdd (sVar 2) (sLst (sCons (sC (.str "meet")) (sCons (sC (.str "new")) (sCons (sC (.str "on")) (sCons (sC (.str "paper")) (sCons (sC (.str "quick")) (sCons (sC (.str "round3")) (sCons (sC (.str "same")) (sCons (sC (.str "told")) (sCons (sC (.str "undo")) (sCons (sC (.str "vast")) (sCons (sC (.str "way")) (sCons (sC (.str "xyz")) (sNil))))))))))))))))
 (xSeq (xFrz 2)
 (xSeq (xSet 3 (sC (.str "abcdefghijklmnopqrstuvwxyz0123456789")))
 (xSeq (xSet 4 (sLst (sNil)))
 (xSeq (xIf (sTest (sB fEq (sB fMod (sB fDiv (sVar 0) (sC (.int 7))) (sC (.int 3))) (sC (.int 1))))
 (xSeq (xRet (sComp (srcR1 (sVar 1)) (.one 5) [5] (sYes) (sF (ce1__law_names))))
 (xNil))
 (xNil))
 (xSeq (xFor (srcR1 (sVar 1)) (.one 5)
 (lb2__law_names))
 (xSeq (xRetMv 4)
 (xNil)))))))))
def g__law_names : List Sl → R Sl := runG 9 ex__law_names
theorem sc__law_names : FnScope N__law_names ["_law_rest_here", "_law_many"] (defScope (top 32)) := ⟨rfl, rfl, rfl, by decide +kernel, rfl, by decide +kernel, by decide +kernel⟩
theorem w__law_names {F : Fx} (Z : Facts F) {X : Cx} {W : WX} {B : Bs} (G : Gx X F N__law_names (defScope (top 32))) (g : Gs X W 0) : PSs X (defBody (top 32)) (tS F.T W B ex__law_names) := by
 unfold ex__law_names lb2__law_names lb1__law_names ce1__law_names
 exact pss_xSeq (s_set g.n G 2 (pe_sLst (a_cons (g_str "ask") (a_cons (g_str "bound") (a_cons (g_str "curve") (a_cons (g_str "draw") (a_cons (g_str "even") (a_cons (g_str "free") (a_cons (g_str "gone") (a_cons (g_str "height") (a_cons (g_str "inline") (a_cons (g_str "joined") (a_cons (g_str "known") (a_cons (g_str "line") (pa_sNil)))))))))))))))
    (pss_xFrz (i := 2)
    (pss_xSeq (s_set g.n G 2 (g_add G (g_var G 2) (pe_sLst (a_cons (g_str "meet") (a_cons (g_str "new") (a_cons (g_str "on") (a_cons (g_str "paper") (a_cons (g_str "quick") (a_cons (g_str "round3") (a_cons (g_str "same") (a_cons (g_str "told") (a_cons (g_str "undo") (a_cons (g_str "vast") (a_cons (g_str "way") (a_cons (g_str "xyz") (pa_sNil))))))))))))))))
    (pss_xFrz (i := 2)
    (pss_xSeq (s_set g.n G 3 (g_str "abcdefghijklmnopqrstuvwxyz0123456789"))
    (pss_xSeq (s_set g.n G 4 (pe_sLst (pa_sNil)))
    (pss_xSeq (ps_xIf (t_eq G g.r (g_mod G (g_div G (g_var G 0) (g_int 7)) (g_int 3)) (g_int 1))
    (pss_xSeq (s_ret (g_comp g.r G [("_law_k", 5)] (i_R1 G Z.nb_range (g_var G 1)) tg_one (fun Y G1 => p_one G1 5) (fun Y G1 R1 => pts_sYes) (fun Y G1 R1 => pe_sF (g_add G1 (g_add G1 (g_mulX G1 (g_str "p") (g_add G1 (g_int 1) (g_mod G1 (g_div G1 (g_var G1 0) (g_int 21)) (g_int 6)))) (g_idx G1 (g_var G1 3) (g_var G1 5))) (g_mulX G1 (g_str "z") (g_mod G1 (g_var G1 5) (g_int 2)))))))
    (pss_xNil))
    (pss_xNil))
    (pss_xSeq (s_for g (i_R1 G Z.nb_range (g_var G 1)) tg_one (p_one G 5)
    (pss_xSeq (s_set g.n G 6 (g_idx G (g_var G 2) (g_var G 5)))
    (pss_xFrz (i := 6)
    (pss_xSeq (s_set g.n G 7 (g_mod G (g_div G (g_var G 0) (g_int 2)) (g_int 8)))
    (pss_xFrz (i := 7)
    (pss_xSeq (ps_xIf (t_eq G g.r (g_mod G (g_var G 0) (g_int 2)) (g_int 1))
    (pss_xSeq (s_set g.n G 6 (g_idx G (g_var G 3) (g_var G 5)))
    (pss_xFrz (i := 6)
    (pss_xSeq (s_for g (i_R1 G Z.nb_range (g_var G 7)) tg_one (p_one G 8)
    (pss_xSeq (s_set g.n G 6 (g_add G (g_var G 6) (g_idx G (g_var G 3) (g_mod G (g_div G (g_var G 0) (g_add G (g_int 16) (g_mulX G (g_var G 8) (g_var G 8)))) (g_int 36)))))
    (pss_xFrz (i := 6)
    (pss_xFgt (is := [8])
    (pss_xNil)))))
    (pss_xNil))))
    (pss_xNil))
    (pss_xSeq (s_mut G 4 PySem.F.slot_list_append PySem.F.type_list_append mt_append mo_app (a_cons (g_var G 6) (pa_sNil)))
    (pss_xSeq (s_set g.n G 0 (g_add G (g_div G (g_var G 0) (g_int 11)) (g_var G 5)))
    (pss_xFrz (i := 0)
    (pss_xFgt (is := [5, 6, 7, 8])
    (pss_xNil)))))))))))
    (pss_xSeq (s_retmv G 4)
    (pss_xNil)))))))))
theorem cal__law_names {F : Fx} (Z : Facts F) : Cal F "_law_names" 1 2 g__law_names := by
  obtain ⟨f, fd, Fd, hm⟩ := Z.fd__law_names
  exact ⟨f, fd, ["_law_rest_here", "_law_many"], fn_ok Fd sc__law_names fun X W B G g => w__law_names Z G g, hm, Fd.kp, Fd.bindsN fun _ _ _ _ _ _ us hl => match us, hl with | [_, _], _ => rfl⟩
/-! ### _law_cell_at -/
def N__law_cell_at : List PySem.Str := ["_law_script", "_law_k"]
def ex__law_cell_at : Ex := xSeq (xIf (sTest (sB fLt (sVar 1) (sBi bLen (sCons (sVar 0) (sNil)))))
 (xSeq (xRet (sB fIdx (sVar 0) (sVar 1)))
 (xNil))
 (xNil))
 (xSeq (xRet (sC (.int 0)))
 (xNil))
def g__law_cell_at : List Sl → R Sl := runG 2 ex__law_cell_at
theorem sc__law_cell_at : FnScope N__law_cell_at ["_law_script", "_law_k"] (defScope (top 29)) := ⟨rfl, rfl, rfl, by decide +kernel, rfl, by decide +kernel, by decide +kernel⟩
theorem w__law_cell_at {F : Fx} (Z : Facts F) {X : Cx} {W : WX} {B : Bs} (G : Gx X F N__law_cell_at (defScope (top 29))) (g : Gs X W 0) : PSs X (defBody (top 29)) (tS F.T W B ex__law_cell_at) := by
 unfold ex__law_cell_at
 exact pss_xSeq (ps_xIf (t_lt G (g_var G 1) (g_bi G (cr_bLen G.K) Z.nb_len (by decide +kernel) (a_cons (g_var G 0) (pa_sNil))))
    (pss_xSeq (s_ret (g_idx G (g_var G 0) (g_var G 1)))
    (pss_xNil))
    (pss_xNil))
    (pss_xSeq (s_ret (g_int 0))
    (pss_xNil))
theorem cal__law_cell_at {F : Fx} (Z : Facts F) : Cal F "_law_cell_at" 1 2 g__law_cell_at := by
  obtain ⟨f, fd, Fd, hm⟩ := Z.fd__law_cell_at
  exact ⟨f, fd, ["_law_script", "_law_k"], fn_ok Fd sc__law_cell_at fun X W B G g => w__law_cell_at Z G g, hm, Fd.kp, Fd.bindsN fun _ _ _ _ _ _ us hl => match us, hl with | [_, _], _ => rfl⟩
/-! ### _law_mixed -/
def N__law_mixed : List PySem.Str := ["_law_cell", "_law_k", "_law_number"]
def ex__law_mixed : Ex := xSeq (xSet 2 (sB fMod (sB fAdd (sB fAdd (sB fMulX (sB fMod (sVar 0) (sC (.int 2147483647))) (sC (.int 48271))) (sB fMulX (sVar 1) (sC (.int 69621)))) (sC (.int 11))) (sC (.int 2147483647))))
 (xSeq (xFrz 2)
 (xSeq (xSet 2 (sB fMod (sB fMulX (sVar 2) (sVar 2)) (sC (.int 2147483629))))
 (xSeq (xFrz 2)
 (xSeq (xRet (sB fMod (sB fMulX (sVar 2) (sVar 2)) (sC (.int 2147483587))))
 (xNil)))))
def g__law_mixed : List Sl → R Sl := runG 3 ex__law_mixed
theorem sc__law_mixed : FnScope N__law_mixed ["_law_cell", "_law_k"] (defScope (top 30)) := ⟨rfl, rfl, rfl, by decide +kernel, rfl, by decide +kernel, by decide +kernel⟩
theorem w__law_mixed {F : Fx} (Z : Facts F) {X : Cx} {W : WX} {B : Bs} (G : Gx X F N__law_mixed (defScope (top 30))) (g : Gs X W 0) : PSs X (defBody (top 30)) (tS F.T W B ex__law_mixed) := by
 unfold ex__law_mixed
 exact pss_xSeq (s_set g.n G 2 (g_mod G (g_add G (g_add G (g_mulX G (g_mod G (g_var G 0) (g_int 2147483647)) (g_int 48271)) (g_mulX G (g_var G 1) (g_int 69621))) (g_int 11)) (g_int 2147483647)))
    (pss_xFrz (i := 2)
    (pss_xSeq (s_set g.n G 2 (g_mod G (g_mulX G (g_var G 2) (g_var G 2)) (g_int 2147483629)))
    (pss_xFrz (i := 2)
    (pss_xSeq (s_ret (g_mod G (g_mulX G (g_var G 2) (g_var G 2)) (g_int 2147483587)))
    (pss_xNil)))))
theorem cal__law_mixed {F : Fx} (Z : Facts F) : Cal F "_law_mixed" 1 2 g__law_mixed := by
  obtain ⟨f, fd, Fd, hm⟩ := Z.fd__law_mixed
  exact ⟨f, fd, ["_law_cell", "_law_k"], fn_ok Fd sc__law_mixed fun X W B G g => w__law_mixed Z G g, hm, Fd.kp, Fd.bindsN fun _ _ _ _ _ _ us hl => match us, hl with | [_, _], _ => rfl⟩
/-! ### _law_rest -/
def N__law_rest : List PySem.Str := ["_law_script", "_law_k", "_law_cell", "_law_big"]
def ex__law_rest : Ex := xSeq (xSet 2 (sCall g__law_cell_at [.bo, .fr] (sCons (sVar 0) (sCons (sVar 1) (sNil)))))
 (xSeq (xFrz 2)
 (xSeq (xIf (sTest (sB fGe (sBi bAbs (sCons (sVar 2) (sNil))) (sB fPow (sC (.int 10)) (sC (.int 18)))))
 (xSeq (xRetMv 2)
 (xNil))
 (xNil))
 (xSeq (xSet 3 (sB fAdd (sCall g__law_mixed [.fr, .fr] (sCons (sVar 2) (sCons (sVar 1) (sNil)))) (sB fMulX (sCall g__law_mixed [.fr, .fr] (sCons (sVar 2) (sCons (sB fAdd (sVar 1) (sC (.int 500))) (sNil)))) (sC (.int 2147483587)))))
 (xSeq (xFrz 3)
 (xSeq (xRet (sB fAdd (sVar 3) (sB fMulX (sB fMulX (sCall g__law_mixed [.fr, .fr] (sCons (sVar 2) (sCons (sB fAdd (sVar 1) (sC (.int 900))) (sNil)))) (sC (.int 2147483587))) (sC (.int 2147483587)))))
 (xNil))))))
def g__law_rest : List Sl → R Sl := runG 4 ex__law_rest
theorem sc__law_rest : FnScope N__law_rest ["_law_script", "_law_k"] (defScope (top 31)) := ⟨rfl, rfl, rfl, by decide +kernel, rfl, by decide +kernel, by decide +kernel⟩
theorem w__law_rest {F : Fx} (Z : Facts F) {X : Cx} {W : WX} {B : Bs} (G : Gx X F N__law_rest (defScope (top 31))) (g : Gs X W 1) : PSs X (defBody (top 31)) (tS F.T W B ex__law_rest) := by
 unfold ex__law_rest
 exact pss_xSeq (s_set g.n G 2 (g_call G (g.r.mono (by decide)) (bs := [.bo, .fr]) (cal__law_cell_at Z) g.tk (a_cons (g_var G 0) (a_cons (g_var G 1) (pa_sNil)))))
    (pss_xFrz (i := 2)
    (pss_xSeq (ps_xIf (t_ge G (g_bi G cr_bAbs Z.nb_abs (by decide +kernel) (a_cons (g_var G 2) (pa_sNil))) (g_pow G (g_int 10) (g_int 18)))
    (pss_xSeq (s_retmv G 2)
    (pss_xNil))
    (pss_xNil))
    (pss_xSeq (s_set g.n G 3 (g_add G (g_call G (g.r.mono (by decide)) (bs := [.fr, .fr]) (cal__law_mixed Z) g.tk (a_cons (g_var G 2) (a_cons (g_var G 1) (pa_sNil)))) (g_mulX G (g_call G (g.r.mono (by decide)) (bs := [.fr, .fr]) (cal__law_mixed Z) g.tk (a_cons (g_var G 2) (a_cons (g_add G (g_var G 1) (g_int 500)) (pa_sNil)))) (g_int 2147483587))))
    (pss_xFrz (i := 3)
    (pss_xSeq (s_ret (g_add G (g_var G 3) (g_mulX G (g_mulX G (g_call G (g.r.mono (by decide)) (bs := [.fr, .fr]) (cal__law_mixed Z) g.tk (a_cons (g_var G 2) (a_cons (g_add G (g_var G 1) (g_int 900)) (pa_sNil)))) (g_int 2147483587)) (g_int 2147483587))))
    (pss_xNil))))))
theorem cal__law_rest {F : Fx} (Z : Facts F) : Cal F "_law_rest" 2 2 g__law_rest := by
  obtain ⟨f, fd, Fd, hm⟩ := Z.fd__law_rest
  exact ⟨f, fd, ["_law_script", "_law_k"], fn_ok Fd sc__law_rest fun X W B G g => w__law_rest Z G g, hm, Fd.kp, Fd.bindsN fun _ _ _ _ _ _ us hl => match us, hl with | [_, _], _ => rfl⟩
/-! ### _law_said -/
def N__law_said : List PySem.Str := []
def ex__law_said : Ex := xSeq (xRet (sLst (sCons (sC (.str "inline")) (sCons (sC (.str "one")) (sCons (sC (.str "on")) (sCons (sC (.str "aside")) (sCons (sC (.str "asquare")) (sCons (sC (.str "same")) (sCons (sC (.str "sameline")) (sCons (sC (.str "far")) (sCons (sC (.str "areas")) (sCons (sC (.str "ring")) (sCons (sC (.str "angles")) (sCons (sC (.str "evenpair")) (sCons (sC (.str "touches")) (sCons (sC (.str "touching")) (sCons (sC (.str "squareround")) (sCons (sC (.str "evenround")) (sNil)))))))))))))))))))
 (xNil)
def g__law_said : List Sl → R Sl := runG 0 ex__law_said
theorem sc__law_said : FnScope N__law_said [] (defScope (top 34)) := ⟨rfl, rfl, rfl, by decide +kernel, rfl, by decide +kernel, by decide +kernel⟩
theorem w__law_said {F : Fx} (Z : Facts F) {X : Cx} {W : WX} {B : Bs} (G : Gx X F N__law_said (defScope (top 34))) (g : Gs X W 0) : PSs X (defBody (top 34)) (tS F.T W B ex__law_said) := by
 unfold ex__law_said
 exact pss_xSeq (s_ret (pe_sLst (a_cons (g_str "inline") (a_cons (g_str "one") (a_cons (g_str "on") (a_cons (g_str "aside") (a_cons (g_str "asquare") (a_cons (g_str "same") (a_cons (g_str "sameline") (a_cons (g_str "far") (a_cons (g_str "areas") (a_cons (g_str "ring") (a_cons (g_str "angles") (a_cons (g_str "evenpair") (a_cons (g_str "touches") (a_cons (g_str "touching") (a_cons (g_str "squareround") (a_cons (g_str "evenround") (pa_sNil)))))))))))))))))))
    (pss_xNil)
theorem cal__law_said {F : Fx} (Z : Facts F) : Cal F "_law_said" 1 0 g__law_said := by
  obtain ⟨f, fd, Fd, hm⟩ := Z.fd__law_said
  exact ⟨f, fd, [], fn_ok Fd sc__law_said fun X W B G g => w__law_said Z G g, hm, Fd.kp, Fd.bindsN fun _ _ _ _ _ _ us hl => match us, hl with | [], _ => rfl⟩
/-! ### _law_marks -/
def N__law_marks : List PySem.Str := ["_law_word", "_law_marks_here"]
def ex__law_marks : Ex := xSeq (xSet 1 (sLst (sCons (sC (.str "ppp")) (sCons (sC (.str "lll")) (sCons (sC (.str "pw")) (sCons (sC (.str "ll")) (sCons (sC (.str "ll")) (sCons (sC (.str "pp")) (sCons (sC (.str "ll")) (sCons (sC (.str "pppp")) (sCons (sC (.str "pppppp")) (sCons (sC (.str "pppp")) (sCons (sC (.str "pppppp")) (sCons (sC (.str "pppp")) (sNil)))))))))))))))
 (xSeq (xFrz 1)
 (xSeq (xSet 1 (sB fAdd (sVar 1) (sLst (sCons (sC (.str "lc")) (sCons (sC (.str "cc")) (sCons (sC (.str "cc")) (sCons (sC (.str "cc")) (sNil))))))))
 (xSeq (xFrz 1)
 (xSeq (xRet (sB fIdx (sVar 1) (sSm "list" mIndex (sCall g__law_said [] sNil) (sCons (sVar 0) (sNil)))))
 (xNil)))))
def g__law_marks : List Sl → R Sl := runG 2 ex__law_marks
theorem sc__law_marks : FnScope N__law_marks ["_law_word"] (defScope (top 35)) := ⟨rfl, rfl, rfl, by decide +kernel, rfl, by decide +kernel, by decide +kernel⟩
theorem w__law_marks {F : Fx} (Z : Facts F) {X : Cx} {W : WX} {B : Bs} (G : Gx X F N__law_marks (defScope (top 35))) (g : Gs X W 1) : PSs X (defBody (top 35)) (tS F.T W B ex__law_marks) := by
 unfold ex__law_marks
 exact pss_xSeq (s_set g.n G 1 (pe_sLst (a_cons (g_str "ppp") (a_cons (g_str "lll") (a_cons (g_str "pw") (a_cons (g_str "ll") (a_cons (g_str "ll") (a_cons (g_str "pp") (a_cons (g_str "ll") (a_cons (g_str "pppp") (a_cons (g_str "pppppp") (a_cons (g_str "pppp") (a_cons (g_str "pppppp") (a_cons (g_str "pppp") (pa_sNil)))))))))))))))
    (pss_xFrz (i := 1)
    (pss_xSeq (s_set g.n G 1 (g_add G (g_var G 1) (pe_sLst (a_cons (g_str "lc") (a_cons (g_str "cc") (a_cons (g_str "cc") (a_cons (g_str "cc") (pa_sNil))))))))
    (pss_xFrz (i := 1)
    (pss_xSeq (s_ret (g_idx G (g_var G 1) (g_sm PySem.F.plainAttrs_list PySem.F.slot_list_index PySem.F.type_list_index (mt_mIndex G.K) (g_call0 G (g.r.mono (by decide)) (cal__law_said Z) g.tk) (a_cons (g_var G 0) (pa_sNil)))))
    (pss_xNil)))))
theorem cal__law_marks {F : Fx} (Z : Facts F) : Cal F "_law_marks" 2 1 g__law_marks := by
  obtain ⟨f, fd, Fd, hm⟩ := Z.fd__law_marks
  exact ⟨f, fd, ["_law_word"], fn_ok Fd sc__law_marks fun X W B G g => w__law_marks Z G g, hm, Fd.kp, Fd.bindsN fun _ _ _ _ _ _ us hl => match us, hl with | [_], _ => rfl⟩
/-! ### is_name -/
def N_is_name : List PySem.Str := ["thing", "sign"]
def cc1_is_name : Ev Bool := sAnd (sTest (sB fNotIn (sVar 1) (sC (.str "abcdefghijklmnopqrstuvwxyz")))) (sTest (sB fNotIn (sVar 1) (sC (.str "0123456789"))))
def ce1_is_name : Ev Sl := sVar 1
def ex_is_name : Ex := xSeq (xIf (sOr (sNot (sTru (sIs sub .str (sVar 0)))) (sOr (sTest (sB fEq (sVar 0) (sC (.str "")))) (sOr (sTest (sB fGt (sBi bLen (sCons (sVar 0) (sNil))) (sC (.int 8)))) (sTest (sB fNotIn (sB fIdx (sVar 0) (sC (.int 0))) (sC (.str "abcdefghijklmnopqrstuvwxyz")))))))
 (xSeq (xRet (sC (.bl false)))
 (xNil))
 (xNil))
 (xSeq (xRet (sB fEq (sBi bLen (sCons (sComp (srcX (sVar 0)) (.one 1) [1] (cc1_is_name) (sF (ce1_is_name))) (sNil))) (sC (.int 0))))
 (xNil))
def g_is_name : List Sl → R Sl := runG 2 ex_is_name
theorem sc_is_name : FnScope N_is_name ["thing"] (defScope (top 23)) := ⟨rfl, rfl, rfl, by decide +kernel, rfl, by decide +kernel, by decide +kernel⟩
theorem w_is_name {F : Fx} (Z : Facts F) {X : Cx} {W : WX} {B : Bs} (G : Gx X F N_is_name (defScope (top 23))) (g : Gs X W 0) : PSs X (defBody (top 23)) (tS F.T W B ex_is_name) := by
 unfold ex_is_name ce1_is_name cc1_is_name
 exact pss_xSeq (ps_xIf (PW.pt (pw_sOr (pt_sNot (t_tru G (g_isi Z.E G .str Z.nb_isinstance ⟨Z.nb_str, by decide +kernel⟩ (g_var G 0)))) (pw_sOr (t_eq G g.r (g_var G 0) (g_str "")) (pw_sOr (t_gt G (g_bi G (cr_bLen G.K) Z.nb_len (by decide +kernel) (a_cons (g_var G 0) (pa_sNil))) (g_gint G 8 Z.gi_MOST_NAME)) (pw_sOne (t_ni G (g_idx G (g_var G 0) (g_int 0)) (g_gstr G "abcdefghijklmnopqrstuvwxyz" Z.gs_SMALL_LETTERS)))))))
    (pss_xSeq (s_ret (g_bl false))
    (pss_xNil))
    (pss_xNil))
    (pss_xSeq (s_ret (g_eq G g.r (g_bi G (cr_bLen G.K) Z.nb_len (by decide +kernel) (a_cons (g_comp g.r G [("sign", 1)] (i_X G (g_var G 0)) tg_one (fun Y G1 => p_one G1 1) (fun Y G1 R1 => pts_one (PW.pt (pw_sAnd (t_ni G1 (g_var G1 1) (g_gstr G1 "abcdefghijklmnopqrstuvwxyz" Z.gs_SMALL_LETTERS)) (pw_sOne (t_ni G1 (g_var G1 1) (g_gstr G1 "0123456789" Z.gs_FIGURES)))))) (fun Y G1 R1 => pe_sF (g_var G1 1))) (pa_sNil))) (g_int 0)))
    (pss_xNil))
theorem cal_is_name {F : Fx} (Z : Facts F) : Cal F "is_name" 1 1 g_is_name := by
  obtain ⟨f, fd, Fd, hm⟩ := Z.fd_is_name
  exact ⟨f, fd, ["thing"], fn_ok Fd sc_is_name fun X W B G g => w_is_name Z G g, hm, Fd.kp, Fd.bindsN fun _ _ _ _ _ _ us hl => match us, hl with | [_], _ => rfl⟩
/-! ### look_names -/
def N_look_names : List PySem.Str := ["names", "name"]
def cc1_look_names : Ev Bool := sNot (sTru (sCall g_is_name [.fr] (sCons (sVar 1) (sNil))))
def ce1_look_names : Ev Sl := sVar 1
def ex_look_names : Ex := xSeq (xIf (sOr (sTest (sB fGt (sBi bLen (sCons (sComp (srcX (sVar 0)) (.one 1) [1] (cc1_look_names) (sF (ce1_look_names))) (sNil))) (sC (.int 0)))) (sTest (sB fLt (sU fLenSet (sVar 0)) (sBi bLen (sCons (sVar 0) (sNil))))))
 (xSeq (xRaise0 7)
 (xNil))
 (xNil))
 (xNil)
def g_look_names : List Sl → R Sl := runG 2 ex_look_names
theorem sc_look_names : FnScope N_look_names ["names"] (defScope (top 24)) := ⟨rfl, rfl, rfl, by decide +kernel, rfl, by decide +kernel, by decide +kernel⟩
theorem w_look_names {F : Fx} (Z : Facts F) {X : Cx} {W : WX} {B : Bs} (G : Gx X F N_look_names (defScope (top 24))) (g : Gs X W 1) : PSs X (defBody (top 24)) (tS F.T W B ex_look_names) := by
 unfold ex_look_names ce1_look_names cc1_look_names
 exact pss_xSeq (ps_xIf (PW.pt (pw_sOr (t_gt G (g_bi G (cr_bLen G.K) Z.nb_len (by decide +kernel) (a_cons (g_comp g.r G [("name", 1)] (i_X G (g_var G 0)) tg_one (fun Y G1 => p_one G1 1) (fun Y G1 R1 => pts_one (pt_sNot (t_tru G1 (g_call G1 (R1.mono (by decide)) (bs := [.fr]) (cal_is_name Z) tk0 (a_cons (g_var G1 1) (pa_sNil)))))) (fun Y G1 R1 => pe_sF (g_var G1 1))) (pa_sNil))) (g_int 0)) (pw_sOne (t_lt G (g_lenSet G g.r Z.nb_len Z.nb_set (g_var G 0)) (g_bi G (cr_bLen G.K) Z.nb_len (by decide +kernel) (a_cons (g_var G 0) (pa_sNil)))))))
    (pss_xSeq (s_raise0 g G Z.rz_BadName)
    (pss_xNil))
    (pss_xNil))
    (pss_xNil)
theorem cal_look_names {F : Fx} (Z : Facts F) : Cal F "look_names" 2 1 g_look_names := by
  obtain ⟨f, fd, Fd, hm⟩ := Z.fd_look_names
  exact ⟨f, fd, ["names"], fn_ok Fd sc_look_names fun X W B G g => w_look_names Z G g, hm, Fd.kp, Fd.bindsN fun _ _ _ _ _ _ us hl => match us, hl with | [_], _ => rfl⟩
/-! ### is_saying -/
def N_is_saying : List PySem.Str := ["saying", "numbers", "one"]
def cc1_is_saying : Ev Bool := sAnd (sTru (sIs sub .int (sVar 2))) (sNot (sTru (sIs sub .bool (sVar 2))))
def ce1_is_saying : Ev Sl := sVar 2
def ex_is_saying : Ex := xSeq (xIf (sOr (sNot (sTru (sIs sub .tuple (sVar 0)))) (sOr (sTest (sB fEq (sBi bLen (sCons (sVar 0) (sNil))) (sC (.int 0)))) (sOr (sNot (sTru (sIs sub .str (sB fIdx (sVar 0) (sC (.int 0)))))) (sTest (sU (fTabNi t_SAYINGS) (sB fIdx (sVar 0) (sC (.int 0))))))))
 (xSeq (xRet (sC (.bl false)))
 (xNil))
 (xNil))
 (xSeq (xSet 1 (sComp (srcX (sSlc (sVar 0) (oYes (sC (.int 1))) (oNo))) (.one 2) [2] (cc1_is_saying) (sF (ce1_is_saying))))
 (xSeq (xFrz 1)
 (xSeq (xRet (sAndV (sB fEq (sBi bLen (sCons (sVar 1) (sNil))) (sB fSub (sBi bLen (sCons (sVar 0) (sNil))) (sC (.int 1)))) (sB fEq (sBi bLen (sCons (sVar 1) (sNil))) (sBi bLen (sCons (sU (fTabAt t_SAYINGS) (sB fIdx (sVar 0) (sC (.int 0)))) (sNil))))))
 (xNil))))
def g_is_saying : List Sl → R Sl := runG 3 ex_is_saying
theorem sc_is_saying : FnScope N_is_saying ["saying"] (defScope (top 25)) := ⟨rfl, rfl, rfl, by decide +kernel, rfl, by decide +kernel, by decide +kernel⟩
theorem w_is_saying {F : Fx} (Z : Facts F) {X : Cx} {W : WX} {B : Bs} (G : Gx X F N_is_saying (defScope (top 25))) (g : Gs X W 0) : PSs X (defBody (top 25)) (tS F.T W B ex_is_saying) := by
 unfold ex_is_saying ce1_is_saying cc1_is_saying
 exact pss_xSeq (ps_xIf (PW.pt (pw_sOr (pt_sNot (t_tru G (g_isi Z.E G .tuple Z.nb_isinstance ⟨Z.nb_tuple, by decide +kernel⟩ (g_var G 0)))) (pw_sOr (t_eq G g.r (g_bi G (cr_bLen G.K) Z.nb_len (by decide +kernel) (a_cons (g_var G 0) (pa_sNil))) (g_int 0)) (pw_sOr (pt_sNot (t_tru G (g_isi Z.E G .str Z.nb_isinstance ⟨Z.nb_str, by decide +kernel⟩ (g_idx G (g_var G 0) (g_int 0))))) (pw_sOne (t_tNi G Z.tb_SAYINGS (g_idx G (g_var G 0) (g_int 0))))))))
    (pss_xSeq (s_ret (g_bl false))
    (pss_xNil))
    (pss_xNil))
    (pss_xSeq (s_setc g.n g.r G 1 [("one", 2)] (i_X G (g_slc G (g_var G 0) (po_oYes (g_int 1)) (po_oNo))) tg_one (fun Y G1 => p_one G1 2) (fun Y G1 R1 => pts_one (PW.pt (pw_sAnd (t_tru G1 (g_isi Z.E G1 .int Z.nb_isinstance ⟨Z.nb_int, by decide +kernel⟩ (g_var G1 2))) (pw_sOne (pt_sNot (t_tru G1 (g_isi Z.E G1 .bool Z.nb_isinstance ⟨Z.nb_bool, by decide +kernel⟩ (g_var G1 2)))))))) (fun Y G1 R1 => pe_sF (g_var G1 2)))
    (pss_xFrz (i := 1)
    (pss_xSeq (s_ret (pe_sAndV (g_eq G g.r (g_bi G (cr_bLen G.K) Z.nb_len (by decide +kernel) (a_cons (g_var G 1) (pa_sNil))) (g_sub G (g_bi G (cr_bLen G.K) Z.nb_len (by decide +kernel) (a_cons (g_var G 0) (pa_sNil))) (g_int 1))) (pe_sOne (g_eq G g.r (g_bi G (cr_bLen G.K) Z.nb_len (by decide +kernel) (a_cons (g_var G 1) (pa_sNil))) (g_bi G (cr_bLen G.K) Z.nb_len (by decide +kernel) (a_cons (g_tAt G Z.tb_SAYINGS (g_idx G (g_var G 0) (g_int 0))) (pa_sNil)))))))
    (pss_xNil))))
theorem cal_is_saying {F : Fx} (Z : Facts F) : Cal F "is_saying" 1 1 g_is_saying := by
  obtain ⟨f, fd, Fd, hm⟩ := Z.fd_is_saying
  exact ⟨f, fd, ["saying"], fn_ok Fd sc_is_saying fun X W B G g => w_is_saying Z G g, hm, Fd.kp, Fd.bindsN fun _ _ _ _ _ _ us hl => match us, hl with | [_], _ => rfl⟩
/-! ### shown_saying -/
def N_shown_saying : List PySem.Str := ["saying", "names", "number"]
def lb1_shown_saying : Ex := xSeq (xIf (sOr (sTest (sB fLt (sVar 2) (sC (.int 0)))) (sTest (sB fGe (sVar 2) (sBi bLen (sCons (sVar 1) (sNil))))))
 (xSeq (xRaise0 7)
 (xNil))
 (xNil))
 (xSeq (xFgt [2])
 (xNil))
def ce1_shown_saying : Ev Sl := sB fIdx (sVar 1) (sVar 2)
def ex_shown_saying : Ex := xSeq (xIf (sNot (sTru (sCall g_is_saying [.fr] (sCons (sVar 0) (sNil)))))
 (xSeq (xRaise0 3)
 (xNil))
 (xNil))
 (xSeq (xExpr (sCall g_look_names [.fr] (sCons (sVar 1) (sNil))))
 (xSeq (xFor (srcF (sSlc (sVar 0) (oYes (sC (.int 1))) (oNo))) (.one 2)
 (lb1_shown_saying))
 (xSeq (xRet (sSm "str" mJoin (sC (.str " ")) (sCons (sB fAdd (sLst (sCons (sB fIdx (sVar 0) (sC (.int 0))) (sNil))) (sComp (srcX (sSlc (sVar 0) (oYes (sC (.int 1))) (oNo))) (.one 2) [2] (sYes) (sF (ce1_shown_saying)))) (sNil))))
 (xNil))))
def g_shown_saying : List Sl → R Sl := runG 3 ex_shown_saying
theorem sc_shown_saying : FnScope N_shown_saying ["saying", "names"] (defScope (top 26)) := ⟨rfl, rfl, rfl, by decide +kernel, rfl, by decide +kernel, by decide +kernel⟩
theorem w_shown_saying {F : Fx} (Z : Facts F) {X : Cx} {W : WX} {B : Bs} (G : Gx X F N_shown_saying (defScope (top 26))) (g : Gs X W 2) : PSs X (defBody (top 26)) (tS F.T W B ex_shown_saying) := by
 unfold ex_shown_saying ce1_shown_saying lb1_shown_saying
 exact pss_xSeq (ps_xIf (pt_sNot (t_tru G (g_call G (g.r.mono (by decide)) (bs := [.fr]) (cal_is_saying Z) g.tk (a_cons (g_var G 0) (pa_sNil)))))
    (pss_xSeq (s_raise0 g G Z.rz_BadSaying)
    (pss_xNil))
    (pss_xNil))
    (pss_xSeq (s_expr (g_call G (g.r.mono (by decide)) (bs := [.fr]) (cal_look_names Z) g.tk (a_cons (g_var G 1) (pa_sNil))))
    (pss_xSeq (s_for g (i_F G (g_slc G (g_var G 0) (po_oYes (g_int 1)) (po_oNo))) tg_one (p_one G 2)
    (pss_xSeq (ps_xIf (PW.pt (pw_sOr (t_lt G (g_var G 2) (g_int 0)) (pw_sOne (t_ge G (g_var G 2) (g_bi G (cr_bLen G.K) Z.nb_len (by decide +kernel) (a_cons (g_var G 1) (pa_sNil)))))))
    (pss_xSeq (s_raise0 g G Z.rz_BadName)
    (pss_xNil))
    (pss_xNil))
    (pss_xFgt (is := [2])
    (pss_xNil))))
    (pss_xSeq (s_ret (g_sm PySem.F.plainAttrs_str PySem.F.slot_str_join PySem.F.type_str_join (mt_mJoin G.K) (g_str " ") (a_cons (g_add G (pe_sLst (a_cons (g_idx G (g_var G 0) (g_int 0)) (pa_sNil))) (g_comp g.r G [("number", 2)] (i_X G (g_slc G (g_var G 0) (po_oYes (g_int 1)) (po_oNo))) tg_one (fun Y G1 => p_one G1 2) (fun Y G1 R1 => pts_sYes) (fun Y G1 R1 => pe_sF (g_idx G1 (g_var G1 1) (g_var G1 2))))) (pa_sNil))))
    (pss_xNil))))
theorem cal_shown_saying {F : Fx} (Z : Facts F) : Cal F "shown_saying" 3 2 g_shown_saying := by
  obtain ⟨f, fd, Fd, hm⟩ := Z.fd_shown_saying
  exact ⟨f, fd, ["saying", "names"], fn_ok Fd sc_shown_saying fun X W B G g => w_shown_saying Z G g, hm, Fd.kp, Fd.bindsN fun _ _ _ _ _ _ us hl => match us, hl with | [_, _], _ => rfl⟩
/-! ### _law_bent -/
def N__law_bent : List PySem.Str := ["_law_text", "_law_number", "_law_names_here", "_law_some", "_law_sign", "_law_at", "_law_words", "_law_place", "_law_other", "_law_next_sign"]
def ex__law_bent : Ex := xSeq (xSet 3 (sB fAdd (sC (.str " -/=019ABZ_~!")) (sVar 0)))
 (xSeq (xFrz 3)
 (xSeq (xSet 4 (sB fIdx (sVar 3) (sB fMod (sB fDiv (sVar 1) (sC (.int 9))) (sBi bLen (sCons (sVar 3) (sNil))))))
 (xSeq (xFrz 4)
 (xSeq (xSet 5 (sB fMod (sB fDiv (sVar 1) (sC (.int 1000))) (sB fAdd (sBi bLen (sCons (sVar 0) (sNil))) (sC (.int 1)))))
 (xSeq (xFrz 5)
 (xSeq (xIf (sTest (sB fEq (sB fMod (sVar 1) (sC (.int 9))) (sC (.int 1))))
 (xSeq (xRet (sB fAdd (sB fAdd (sSlc (sVar 0) (oNo) (oYes (sVar 5))) (sVar 4)) (sSlc (sVar 0) (oYes (sVar 5)) (oNo))))
 (xNil))
 (xNil))
 (xSeq (xIf (sTest (sB fEq (sB fMod (sVar 1) (sC (.int 9))) (sC (.int 2))))
 (xSeq (xRet (sSlc (sVar 0) (oNo) (oYes (sVar 5))))
 (xNil))
 (xNil))
 (xSeq (xSet 5 (sBi bMin2 (sCons (sVar 5) (sCons (sB fSub (sBi bLen (sCons (sVar 0) (sNil))) (sC (.int 1))) (sNil)))))
 (xSeq (xFrz 5)
 (xSeq (xIf (sTest (sB fEq (sB fMod (sVar 1) (sC (.int 9))) (sC (.int 3))))
 (xSeq (xRet (sB fAdd (sSlc (sVar 0) (oNo) (oYes (sVar 5))) (sSlc (sVar 0) (oYes (sB fAdd (sVar 5) (sC (.int 1)))) (oNo))))
 (xNil))
 (xNil))
 (xSeq (xIf (sTest (sB fEq (sB fMod (sVar 1) (sC (.int 9))) (sC (.int 4))))
 (xSeq (xRet (sB fAdd (sB fAdd (sSlc (sVar 0) (oNo) (oYes (sVar 5))) (sVar 4)) (sSlc (sVar 0) (oYes (sB fAdd (sVar 5) (sC (.int 1)))) (oNo))))
 (xNil))
 (xNil))
 (xSeq (xIf (sTest (sB fEq (sB fMod (sVar 1) (sC (.int 9))) (sC (.int 5))))
 (xSeq (xSet 9 (sSlc (sVar 0) (oYes (sB fAdd (sVar 5) (sC (.int 1)))) (oYes (sB fAdd (sVar 5) (sC (.int 2))))))
 (xSeq (xFrz 9)
 (xSeq (xRet (sB fAdd (sB fAdd (sB fAdd (sSlc (sVar 0) (oNo) (oYes (sVar 5))) (sVar 9)) (sB fIdx (sVar 0) (sVar 5))) (sSlc (sVar 0) (oYes (sB fAdd (sVar 5) (sC (.int 2)))) (oNo))))
 (xNil))))
 (xNil))
 (xSeq (xSet 6 (sSm "str" mSplit (sVar 0) (sCons (sC (.str " ")) (sNil))))
 (xSeq (xSet 7 (sB fMod (sB fDiv (sVar 1) (sC (.int 9))) (sBi bLen (sCons (sVar 6) (sNil)))))
 (xSeq (xFrz 7)
 (xSeq (xSet 8 (sB fIdx (sB fAdd (sB fAdd (sVar 2) (sCall g__law_said [] sNil)) (sLst (sCons (sC (.str "")) (sCons (sC (.str "none")) (sCons (sC (.str "free")) (sNil)))))) (sB fMod (sB fDiv (sVar 1) (sC (.int 1000))) (sB fAdd (sBi bLen (sCons (sVar 2) (sNil))) (sC (.int 19))))))
 (xSeq (xFrz 8)
 (xSeq (xIf (sTest (sB fEq (sB fMod (sVar 1) (sC (.int 9))) (sC (.int 6))))
 (xSeq (xSto 6 (sVar 7) (sVar 8))
 (xNil))
 (xNil))
 (xSeq (xIf (sTest (sB fEq (sB fMod (sVar 1) (sC (.int 9))) (sC (.int 7))))
 (xSeq (xMut 6 (sCons (sVar 7) (sCons (sVar 8) (sNil))) mIns)
 (xNil))
 (xNil))
 (xSeq (xRet (sSm "str" mJoin (sC (.str " ")) (sCons (sVar 6) (sNil))))
 (xNil)))))))))))))))))))))
def g__law_bent : List Sl → R Sl := runG 10 ex__law_bent
theorem sc__law_bent : FnScope N__law_bent ["_law_text", "_law_number", "_law_names_here"] (defScope (top 36)) := ⟨rfl, rfl, rfl, by decide +kernel, rfl, by decide +kernel, by decide +kernel⟩
theorem w__law_bent {F : Fx} (Z : Facts F) {X : Cx} {W : WX} {B : Bs} (G : Gx X F N__law_bent (defScope (top 36))) (g : Gs X W 1) : PSs X (defBody (top 36)) (tS F.T W B ex__law_bent) := by
 unfold ex__law_bent
 exact pss_xSeq (s_set g.n G 3 (g_add G (g_str " -/=019ABZ_~!") (g_var G 0)))
    (pss_xFrz (i := 3)
    (pss_xSeq (s_set g.n G 4 (g_idx G (g_var G 3) (g_mod G (g_div G (g_var G 1) (g_int 9)) (g_bi G (cr_bLen G.K) Z.nb_len (by decide +kernel) (a_cons (g_var G 3) (pa_sNil))))))
    (pss_xFrz (i := 4)
    (pss_xSeq (s_set g.n G 5 (g_mod G (g_div G (g_var G 1) (g_int 1000)) (g_add G (g_bi G (cr_bLen G.K) Z.nb_len (by decide +kernel) (a_cons (g_var G 0) (pa_sNil))) (g_int 1))))
    (pss_xFrz (i := 5)
    (pss_xSeq (ps_xIf (t_eq G g.r (g_mod G (g_var G 1) (g_int 9)) (g_int 1))
    (pss_xSeq (s_ret (g_add G (g_add G (g_slc G (g_var G 0) (po_oNo) (po_oYes (g_var G 5))) (g_var G 4)) (g_slc G (g_var G 0) (po_oYes (g_var G 5)) (po_oNo))))
    (pss_xNil))
    (pss_xNil))
    (pss_xSeq (ps_xIf (t_eq G g.r (g_mod G (g_var G 1) (g_int 9)) (g_int 2))
    (pss_xSeq (s_ret (g_slc G (g_var G 0) (po_oNo) (po_oYes (g_var G 5))))
    (pss_xNil))
    (pss_xNil))
    (pss_xSeq (s_set g.n G 5 (g_bi G (cr_bMin2 g.r.calm) Z.nb_min (by decide +kernel) (a_cons (g_var G 5) (a_cons (g_sub G (g_bi G (cr_bLen G.K) Z.nb_len (by decide +kernel) (a_cons (g_var G 0) (pa_sNil))) (g_int 1)) (pa_sNil)))))
    (pss_xFrz (i := 5)
    (pss_xSeq (ps_xIf (t_eq G g.r (g_mod G (g_var G 1) (g_int 9)) (g_int 3))
    (pss_xSeq (s_ret (g_add G (g_slc G (g_var G 0) (po_oNo) (po_oYes (g_var G 5))) (g_slc G (g_var G 0) (po_oYes (g_add G (g_var G 5) (g_int 1))) (po_oNo))))
    (pss_xNil))
    (pss_xNil))
    (pss_xSeq (ps_xIf (t_eq G g.r (g_mod G (g_var G 1) (g_int 9)) (g_int 4))
    (pss_xSeq (s_ret (g_add G (g_add G (g_slc G (g_var G 0) (po_oNo) (po_oYes (g_var G 5))) (g_var G 4)) (g_slc G (g_var G 0) (po_oYes (g_add G (g_var G 5) (g_int 1))) (po_oNo))))
    (pss_xNil))
    (pss_xNil))
    (pss_xSeq (ps_xIf (t_eq G g.r (g_mod G (g_var G 1) (g_int 9)) (g_int 5))
    (pss_xSeq (s_set g.n G 9 (g_slc G (g_var G 0) (po_oYes (g_add G (g_var G 5) (g_int 1))) (po_oYes (g_add G (g_var G 5) (g_int 2)))))
    (pss_xFrz (i := 9)
    (pss_xSeq (s_ret (g_add G (g_add G (g_add G (g_slc G (g_var G 0) (po_oNo) (po_oYes (g_var G 5))) (g_var G 9)) (g_idx G (g_var G 0) (g_var G 5))) (g_slc G (g_var G 0) (po_oYes (g_add G (g_var G 5) (g_int 2))) (po_oNo))))
    (pss_xNil))))
    (pss_xNil))
    (pss_xSeq (s_set g.n G 6 (g_sm PySem.F.plainAttrs_str PySem.F.slot_str_split PySem.F.type_str_split mt_mSplit (g_var G 0) (a_cons (g_str " ") (pa_sNil))))
    (pss_xSeq (s_set g.n G 7 (g_mod G (g_div G (g_var G 1) (g_int 9)) (g_bi G (cr_bLen G.K) Z.nb_len (by decide +kernel) (a_cons (g_var G 6) (pa_sNil)))))
    (pss_xFrz (i := 7)
    (pss_xSeq (s_set g.n G 8 (g_idx G (g_add G (g_add G (g_var G 2) (g_call0 G (g.r.mono (by decide)) (cal__law_said Z) g.tk)) (pe_sLst (a_cons (g_str "") (a_cons (g_str "none") (a_cons (g_str "free") (pa_sNil)))))) (g_mod G (g_div G (g_var G 1) (g_int 1000)) (g_add G (g_bi G (cr_bLen G.K) Z.nb_len (by decide +kernel) (a_cons (g_var G 2) (pa_sNil))) (g_int 19)))))
    (pss_xFrz (i := 8)
    (pss_xSeq (ps_xIf (t_eq G g.r (g_mod G (g_var G 1) (g_int 9)) (g_int 6))
    (pss_xSeq (s_sto G 6 (g_var G 7) (g_var G 8))
    (pss_xNil))
    (pss_xNil))
    (pss_xSeq (ps_xIf (t_eq G g.r (g_mod G (g_var G 1) (g_int 9)) (g_int 7))
    (pss_xSeq (s_mut G 6 PySem.F.slot_list_insert PySem.F.type_list_insert mt_insert mo_ins (a_cons (g_var G 7) (a_cons (g_var G 8) (pa_sNil))))
    (pss_xNil))
    (pss_xNil))
    (pss_xSeq (s_ret (g_sm PySem.F.plainAttrs_str PySem.F.slot_str_join PySem.F.type_str_join (mt_mJoin G.K) (g_str " ") (a_cons (g_var G 6) (pa_sNil))))
    (pss_xNil)))))))))))))))))))))
theorem cal__law_bent {F : Fx} (Z : Facts F) : Cal F "_law_bent" 2 3 g__law_bent := by
  obtain ⟨f, fd, Fd, hm⟩ := Z.fd__law_bent
  exact ⟨f, fd, ["_law_text", "_law_number", "_law_names_here"], fn_ok Fd sc__law_bent fun X W B G g => w__law_bent Z G g, hm, Fd.kp, Fd.bindsN fun _ _ _ _ _ _ us hl => match us, hl with | [_, _, _], _ => rfl⟩
/-! ### _law_reader -/
def N__law_reader : List PySem.Str := ["_law_text", "_law_names_here", "_law_words", "_law_word"]
def lb1__law_reader : Ex := xSeq (xIf (sTest (sB fNotIn (sVar 3) (sVar 1)))
 (xSeq (xRet (sC .non))
 (xNil))
 (xNil))
 (xSeq (xFgt [3])
 (xNil))
def ce1__law_reader : Ev Sl := sSm "list" mIndex (sVar 1) (sCons (sVar 3) (sNil))
def ex__law_reader : Ex := xSeq (xSet 2 (sSm "str" mSplit (sVar 0) (sCons (sC (.str " ")) (sNil))))
 (xSeq (xFrz 2)
 (xSeq (xIf (sOr (sTest (sB fNotIn (sB fIdx (sVar 2) (sC (.int 0))) (sCall g__law_said [] sNil))) (sTest (sB fNe (sB fSub (sBi bLen (sCons (sVar 2) (sNil))) (sC (.int 1))) (sBi bLen (sCons (sCall g__law_marks [.fr] (sCons (sB fIdx (sVar 2) (sC (.int 0))) (sNil))) (sNil))))))
 (xSeq (xRet (sC .non))
 (xNil))
 (xNil))
 (xSeq (xFor (srcF (sSlc (sVar 2) (oYes (sC (.int 1))) (oNo))) (.one 3)
 (lb1__law_reader))
 (xSeq (xRet (sBi bTup (sCons (sB fAdd (sLst (sCons (sB fIdx (sVar 2) (sC (.int 0))) (sNil))) (sComp (srcX (sSlc (sVar 2) (oYes (sC (.int 1))) (oNo))) (.one 3) [3] (sYes) (sF (ce1__law_reader)))) (sNil))))
 (xNil)))))
def g__law_reader : List Sl → R Sl := runG 4 ex__law_reader
theorem sc__law_reader : FnScope N__law_reader ["_law_text", "_law_names_here"] (defScope (top 37)) := ⟨rfl, rfl, rfl, by decide +kernel, rfl, by decide +kernel, by decide +kernel⟩
theorem w__law_reader {F : Fx} (Z : Facts F) {X : Cx} {W : WX} {B : Bs} (G : Gx X F N__law_reader (defScope (top 37))) (g : Gs X W 2) : PSs X (defBody (top 37)) (tS F.T W B ex__law_reader) := by
 unfold ex__law_reader ce1__law_reader lb1__law_reader
 exact pss_xSeq (s_set g.n G 2 (g_sm PySem.F.plainAttrs_str PySem.F.slot_str_split PySem.F.type_str_split mt_mSplit (g_var G 0) (a_cons (g_str " ") (pa_sNil))))
    (pss_xFrz (i := 2)
    (pss_xSeq (ps_xIf (PW.pt (pw_sOr (t_ni G (g_idx G (g_var G 2) (g_int 0)) (g_call0 G (g.r.mono (by decide)) (cal__law_said Z) g.tk)) (pw_sOne (t_ne G g.r (g_sub G (g_bi G (cr_bLen G.K) Z.nb_len (by decide +kernel) (a_cons (g_var G 2) (pa_sNil))) (g_int 1)) (g_bi G (cr_bLen G.K) Z.nb_len (by decide +kernel) (a_cons (g_call G (g.r.mono (by decide)) (bs := [.fr]) (cal__law_marks Z) g.tk (a_cons (g_idx G (g_var G 2) (g_int 0)) (pa_sNil))) (pa_sNil)))))))
    (pss_xSeq (s_ret (g_non))
    (pss_xNil))
    (pss_xNil))
    (pss_xSeq (s_for g (i_F G (g_slc G (g_var G 2) (po_oYes (g_int 1)) (po_oNo))) tg_one (p_one G 3)
    (pss_xSeq (ps_xIf (t_ni G (g_var G 3) (g_var G 1))
    (pss_xSeq (s_ret (g_non))
    (pss_xNil))
    (pss_xNil))
    (pss_xFgt (is := [3])
    (pss_xNil))))
    (pss_xSeq (s_ret (g_ty G (cr_bTup G.K) Z.nb_tuple (by decide +kernel) (a_cons (g_add G (pe_sLst (a_cons (g_idx G (g_var G 2) (g_int 0)) (pa_sNil))) (g_comp g.r G [("_law_word", 3)] (i_X G (g_slc G (g_var G 2) (po_oYes (g_int 1)) (po_oNo))) tg_one (fun Y G1 => p_one G1 3) (fun Y G1 R1 => pts_sYes) (fun Y G1 R1 => pe_sF (g_sm PySem.F.plainAttrs_list PySem.F.slot_list_index PySem.F.type_list_index (mt_mIndex G1.K) (g_var G1 1) (a_cons (g_var G1 3) (pa_sNil)))))) (pa_sNil))))
    (pss_xNil)))))
theorem cal__law_reader {F : Fx} (Z : Facts F) : Cal F "_law_reader" 3 2 g__law_reader := by
  obtain ⟨f, fd, Fd, hm⟩ := Z.fd__law_reader
  exact ⟨f, fd, ["_law_text", "_law_names_here"], fn_ok Fd sc__law_reader fun X W B G g => w__law_reader Z G g, hm, Fd.kp, Fd.bindsN fun _ _ _ _ _ _ us hl => match us, hl with | [_, _], _ => rfl⟩
/-! ### read_saying -/
def N_read_saying : List PySem.Str := ["line", "names", "words", "word"]
def lb1_read_saying : Ex := xSeq (xIf (sTest (sB fNotIn (sVar 3) (sVar 1)))
 (xSeq (xRaise1 16 (sC (.int 0)))
 (xNil))
 (xNil))
 (xSeq (xFgt [3])
 (xNil))
def ce1_read_saying : Ev Sl := sSm "list" mIndex (sVar 1) (sCons (sVar 3) (sNil))
def ex_read_saying : Ex := xSeq (xSet 2 (sSm "str" mSplit (sVar 0) (sCons (sC (.str " ")) (sNil))))
 (xSeq (xFrz 2)
 (xSeq (xIf (sOr (sTest (sU (fTabNi t_SAYINGS) (sB fIdx (sVar 2) (sC (.int 0))))) (sTest (sB fNe (sB fSub (sBi bLen (sCons (sVar 2) (sNil))) (sC (.int 1))) (sBi bLen (sCons (sU (fTabAt t_SAYINGS) (sB fIdx (sVar 2) (sC (.int 0)))) (sNil))))))
 (xSeq (xRaise1 16 (sC (.int 0)))
 (xNil))
 (xNil))
 (xSeq (xFor (srcF (sSlc (sVar 2) (oYes (sC (.int 1))) (oNo))) (.one 3)
 (lb1_read_saying))
 (xSeq (xRet (sBi bTup (sCons (sB fAdd (sLst (sCons (sB fIdx (sVar 2) (sC (.int 0))) (sNil))) (sComp (srcX (sSlc (sVar 2) (oYes (sC (.int 1))) (oNo))) (.one 3) [3] (sYes) (sF (ce1_read_saying)))) (sNil))))
 (xNil)))))
def g_read_saying : List Sl → R Sl := runG 4 ex_read_saying
theorem sc_read_saying : FnScope N_read_saying ["line", "names"] (defScope (top 27)) := ⟨rfl, rfl, rfl, by decide +kernel, rfl, by decide +kernel, by decide +kernel⟩
theorem w_read_saying {F : Fx} (Z : Facts F) {X : Cx} {W : WX} {B : Bs} (G : Gx X F N_read_saying (defScope (top 27))) (g : Gs X W 2) : PSs X (defBody (top 27)) (tS F.T W B ex_read_saying) := by
 unfold ex_read_saying ce1_read_saying lb1_read_saying
 exact pss_xSeq (s_set g.n G 2 (g_sm PySem.F.plainAttrs_str PySem.F.slot_str_split PySem.F.type_str_split mt_mSplit (g_var G 0) (a_cons (g_str " ") (pa_sNil))))
    (pss_xFrz (i := 2)
    (pss_xSeq (ps_xIf (PW.pt (pw_sOr (t_tNi G Z.tb_SAYINGS (g_idx G (g_var G 2) (g_int 0))) (pw_sOne (t_ne G g.r (g_sub G (g_bi G (cr_bLen G.K) Z.nb_len (by decide +kernel) (a_cons (g_var G 2) (pa_sNil))) (g_int 1)) (g_bi G (cr_bLen G.K) Z.nb_len (by decide +kernel) (a_cons (g_tAt G Z.tb_SAYINGS (g_idx G (g_var G 2) (g_int 0))) (pa_sNil)))))))
    (pss_xSeq (s_raise1 g G (by decide) Z.rz_NoText (g_int 0))
    (pss_xNil))
    (pss_xNil))
    (pss_xSeq (s_for g (i_F G (g_slc G (g_var G 2) (po_oYes (g_int 1)) (po_oNo))) tg_one (p_one G 3)
    (pss_xSeq (ps_xIf (t_ni G (g_var G 3) (g_var G 1))
    (pss_xSeq (s_raise1 g G (by decide) Z.rz_NoText (g_int 0))
    (pss_xNil))
    (pss_xNil))
    (pss_xFgt (is := [3])
    (pss_xNil))))
    (pss_xSeq (s_ret (g_ty G (cr_bTup G.K) Z.nb_tuple (by decide +kernel) (a_cons (g_add G (pe_sLst (a_cons (g_idx G (g_var G 2) (g_int 0)) (pa_sNil))) (g_comp g.r G [("word", 3)] (i_X G (g_slc G (g_var G 2) (po_oYes (g_int 1)) (po_oNo))) tg_one (fun Y G1 => p_one G1 3) (fun Y G1 R1 => pts_sYes) (fun Y G1 R1 => pe_sF (g_sm PySem.F.plainAttrs_list PySem.F.slot_list_index PySem.F.type_list_index (mt_mIndex G1.K) (g_var G1 1) (a_cons (g_var G1 3) (pa_sNil)))))) (pa_sNil))))
    (pss_xNil)))))
theorem cal_read_saying {F : Fx} (Z : Facts F) : Cal F "read_saying" 3 2 g_read_saying := by
  obtain ⟨f, fd, Fd, hm⟩ := Z.fd_read_saying
  exact ⟨f, fd, ["line", "names"], fn_ok Fd sc_read_saying fun X W B G g => w_read_saying Z G g, hm, Fd.kp, Fd.bindsN fun _ _ _ _ _ _ us hl => match us, hl with | [_, _], _ => rfl⟩
/-! ### _law_alone -/
def N__law_alone : List PySem.Str := ["_law_error", "_law_told", "_law_one"]
def cc1__law_alone : Ev Bool := sTru (sVar 2)
def ce1__law_alone : Ev Sl := sVar 2
def ex__law_alone : Ex := xSeq (xIf (sOr (sNot (sTru (sIs sub (.exc 0) (sVar 0)))) (sNot (sTru (sIs sub .vErr (sVar 0)))))
 (xSeq (xRet (sC (.bl false)))
 (xNil))
 (xNil))
 (xSeq (xSet 1 (sLst (sCons (sIs sub (.exc 1) (sVar 0)) (sCons (sIs sub (.exc 2) (sVar 0)) (sCons (sIs sub (.exc 3) (sVar 0)) (sNil))))))
 (xSeq (xFrz 1)
 (xSeq (xSet 1 (sB fAdd (sVar 1) (sLst (sCons (sIs sub (.exc 4) (sVar 0)) (sCons (sIs sub (.exc 5) (sVar 0)) (sCons (sIs sub (.exc 6) (sVar 0)) (sNil)))))))
 (xSeq (xFrz 1)
 (xSeq (xSet 1 (sB fAdd (sVar 1) (sLst (sCons (sIs sub (.exc 7) (sVar 0)) (sCons (sIs sub (.exc 8) (sVar 0)) (sCons (sIs sub (.exc 9) (sVar 0)) (sNil)))))))
 (xSeq (xFrz 1)
 (xSeq (xSet 1 (sB fAdd (sVar 1) (sLst (sCons (sIs sub (.exc 10) (sVar 0)) (sCons (sIs sub (.exc 11) (sVar 0)) (sCons (sIs sub (.exc 12) (sVar 0)) (sNil)))))))
 (xSeq (xFrz 1)
 (xSeq (xSet 1 (sB fAdd (sVar 1) (sLst (sCons (sIs sub (.exc 13) (sVar 0)) (sCons (sIs sub (.exc 14) (sVar 0)) (sCons (sIs sub (.exc 15) (sVar 0)) (sNil)))))))
 (xSeq (xFrz 1)
 (xSeq (xSet 1 (sB fAdd (sVar 1) (sLst (sCons (sIs sub (.exc 16) (sVar 0)) (sNil)))))
 (xSeq (xFrz 1)
 (xSeq (xRet (sB fEq (sBi bLen (sCons (sComp (srcX (sVar 1)) (.one 2) [2] (cc1__law_alone) (sF (ce1__law_alone))) (sNil))) (sC (.int 1))))
 (xNil))))))))))))))
def g__law_alone : List Sl → R Sl := runG 3 ex__law_alone
theorem sc__law_alone : FnScope N__law_alone ["_law_error"] (defScope (top 33)) := ⟨rfl, rfl, rfl, by decide +kernel, rfl, by decide +kernel, by decide +kernel⟩
theorem w__law_alone {F : Fx} (Z : Facts F) {X : Cx} {W : WX} {B : Bs} (G : Gx X F N__law_alone (defScope (top 33))) (g : Gs X W 0) : PSs X (defBody (top 33)) (tS F.T W B ex__law_alone) := by
 unfold ex__law_alone ce1__law_alone cc1__law_alone
 exact pss_xSeq (ps_xIf (PW.pt (pw_sOr (pt_sNot (t_tru G (g_isi Z.E G (.exc 0) Z.nb_isinstance Z.ex_DrawError (g_var G 0)))) (pw_sOne (pt_sNot (t_tru G (g_isi Z.E G .vErr Z.nb_isinstance ⟨Z.nb_ValueError, by decide +kernel⟩ (g_var G 0)))))))
    (pss_xSeq (s_ret (g_bl false))
    (pss_xNil))
    (pss_xNil))
    (pss_xSeq (s_set g.n G 1 (pe_sLst (a_cons (g_isi Z.E G (.exc 1) Z.nb_isinstance Z.ex_NoBottom (g_var G 0)) (a_cons (g_isi Z.E G (.exc 2) Z.nb_isinstance Z.ex_BadPlace (g_var G 0)) (a_cons (g_isi Z.E G (.exc 3) Z.nb_isinstance Z.ex_BadSaying (g_var G 0)) (pa_sNil))))))
    (pss_xFrz (i := 1)
    (pss_xSeq (s_set g.n G 1 (g_add G (g_var G 1) (pe_sLst (a_cons (g_isi Z.E G (.exc 4) Z.nb_isinstance Z.ex_TooMany (g_var G 0)) (a_cons (g_isi Z.E G (.exc 5) Z.nb_isinstance Z.ex_BadChain (g_var G 0)) (a_cons (g_isi Z.E G (.exc 6) Z.nb_isinstance Z.ex_NoName (g_var G 0)) (pa_sNil)))))))
    (pss_xFrz (i := 1)
    (pss_xSeq (s_set g.n G 1 (g_add G (g_var G 1) (pe_sLst (a_cons (g_isi Z.E G (.exc 7) Z.nb_isinstance Z.ex_BadName (g_var G 0)) (a_cons (g_isi Z.E G (.exc 8) Z.nb_isinstance Z.ex_NoLine (g_var G 0)) (a_cons (g_isi Z.E G (.exc 9) Z.nb_isinstance Z.ex_NoStep (g_var G 0)) (pa_sNil)))))))
    (pss_xFrz (i := 1)
    (pss_xSeq (s_set g.n G 1 (g_add G (g_var G 1) (pe_sLst (a_cons (g_isi Z.E G (.exc 10) Z.nb_isinstance Z.ex_BadStep (g_var G 0)) (a_cons (g_isi Z.E G (.exc 11) Z.nb_isinstance Z.ex_BadThing (g_var G 0)) (a_cons (g_isi Z.E G (.exc 12) Z.nb_isinstance Z.ex_TooFree (g_var G 0)) (pa_sNil)))))))
    (pss_xFrz (i := 1)
    (pss_xSeq (s_set g.n G 1 (g_add G (g_var G 1) (pe_sLst (a_cons (g_isi Z.E G (.exc 13) Z.nb_isinstance Z.ex_TooDeep (g_var G 0)) (a_cons (g_isi Z.E G (.exc 14) Z.nb_isinstance Z.ex_BadKnown (g_var G 0)) (a_cons (g_isi Z.E G (.exc 15) Z.nb_isinstance Z.ex_CantMake (g_var G 0)) (pa_sNil)))))))
    (pss_xFrz (i := 1)
    (pss_xSeq (s_set g.n G 1 (g_add G (g_var G 1) (pe_sLst (a_cons (g_isi Z.E G (.exc 16) Z.nb_isinstance Z.ex_NoText (g_var G 0)) (pa_sNil)))))
    (pss_xFrz (i := 1)
    (pss_xSeq (s_ret (g_eq G g.r (g_bi G (cr_bLen G.K) Z.nb_len (by decide +kernel) (a_cons (g_comp g.r G [("_law_one", 2)] (i_X G (g_var G 1)) tg_one (fun Y G1 => p_one G1 2) (fun Y G1 R1 => pts_one (t_tru G1 (g_var G1 2))) (fun Y G1 R1 => pe_sF (g_var G1 2))) (pa_sNil))) (g_int 1)))
    (pss_xNil))))))))))))))
theorem cal__law_alone {F : Fx} (Z : Facts F) : Cal F "_law_alone" 1 1 g__law_alone := by
  obtain ⟨f, fd, Fd, hm⟩ := Z.fd__law_alone
  exact ⟨f, fd, ["_law_error"], fn_ok Fd sc__law_alone fun X W B G g => w__law_alone Z G g, hm, Fd.kp, Fd.bindsN fun _ _ _ _ _ _ us hl => match us, hl with | [_], _ => rfl⟩
/-! ### _law_good -/
def N__law_good : List PySem.Str := ["_law_found", "_law_due", "_law_one"]
def cc1__law_good : Ev Bool := sOr (sNot (sTru (sIs sub .int (sVar 2)))) (sTru (sIs sub .bool (sVar 2)))
def ce1__law_good : Ev Sl := sVar 2
def ex__law_good : Ex := xSeq (xIf (sOr (sNot (sTru (sIs sub .tuple (sVar 0)))) (sOr (sNot (sTru (sIs sub .str (sB fIdx (sVar 0) (sC (.int 0)))))) (sTest (sB fNe (sVar 0) (sVar 1)))))
 (xSeq (xRet (sC (.bl false)))
 (xNil))
 (xNil))
 (xSeq (xRet (sB fEq (sBi bLen (sCons (sComp (srcX (sSlc (sVar 0) (oYes (sC (.int 1))) (oNo))) (.one 2) [2] (cc1__law_good) (sF (ce1__law_good))) (sNil))) (sC (.int 0))))
 (xNil))
def g__law_good : List Sl → R Sl := runG 3 ex__law_good
theorem sc__law_good : FnScope N__law_good ["_law_found", "_law_due"] (defScope (top 38)) := ⟨rfl, rfl, rfl, by decide +kernel, rfl, by decide +kernel, by decide +kernel⟩
theorem w__law_good {F : Fx} (Z : Facts F) {X : Cx} {W : WX} {B : Bs} (G : Gx X F N__law_good (defScope (top 38))) (g : Gs X W 0) : PSs X (defBody (top 38)) (tS F.T W B ex__law_good) := by
 unfold ex__law_good ce1__law_good cc1__law_good
 exact pss_xSeq (ps_xIf (PW.pt (pw_sOr (pt_sNot (t_tru G (g_isi Z.E G .tuple Z.nb_isinstance ⟨Z.nb_tuple, by decide +kernel⟩ (g_var G 0)))) (pw_sOr (pt_sNot (t_tru G (g_isi Z.E G .str Z.nb_isinstance ⟨Z.nb_str, by decide +kernel⟩ (g_idx G (g_var G 0) (g_int 0))))) (pw_sOne (t_ne G g.r (g_var G 0) (g_var G 1))))))
    (pss_xSeq (s_ret (g_bl false))
    (pss_xNil))
    (pss_xNil))
    (pss_xSeq (s_ret (g_eq G g.r (g_bi G (cr_bLen G.K) Z.nb_len (by decide +kernel) (a_cons (g_comp g.r G [("_law_one", 2)] (i_X G (g_slc G (g_var G 0) (po_oYes (g_int 1)) (po_oNo))) tg_one (fun Y G1 => p_one G1 2) (fun Y G1 R1 => pts_one (PW.pt (pw_sOr (pt_sNot (t_tru G1 (g_isi Z.E G1 .int Z.nb_isinstance ⟨Z.nb_int, by decide +kernel⟩ (g_var G1 2)))) (pw_sOne (t_tru G1 (g_isi Z.E G1 .bool Z.nb_isinstance ⟨Z.nb_bool, by decide +kernel⟩ (g_var G1 2))))))) (fun Y G1 R1 => pe_sF (g_var G1 2))) (pa_sNil))) (g_int 0)))
    (pss_xNil))
theorem cal__law_good {F : Fx} (Z : Facts F) : Cal F "_law_good" 1 2 g__law_good := by
  obtain ⟨f, fd, Fd, hm⟩ := Z.fd__law_good
  exact ⟨f, fd, ["_law_found", "_law_due"], fn_ok Fd sc__law_good fun X W B G g => w__law_good Z G g, hm, Fd.kp, Fd.bindsN fun _ _ _ _ _ _ us hl => match us, hl with | [_, _], _ => rfl⟩
/-! ### law -/
def N_law : List PySem.Str := ["_law_script", "_law_rest_here", "_law_names_here", "_law_handed", "_law_k", "_law_saying", "_law_mark", "_law_text", "_law_told", "_law_due", "_law_found", "_law_error", "e", "_law_number"]
def lb1_law : Ex := xSeq (xMut 5 (sCons (sB fMod (sVar 1) (sBi bLen (sCons (sVar 2) (sNil)))) (sNil)) mApp)
 (xSeq (xSet 1 (sB fDiv (sVar 1) (sBi bLen (sCons (sVar 2) (sNil)))))
 (xSeq (xFrz 1)
 (xSeq (xFgt [6])
 (xNil))))
def ce1_law : Ev Sl := sB fIdx (sVar 2) (sVar 13)
def tb1_law : Ex := xSeq (xSet 10 (sCall g_read_saying [.fr, .fr] (sCons (sVar 7) (sCons (sVar 3) (sNil)))))
 (xSeq (xFrz 10)
 (xNil))
def lb2_law : Ex := xSeq (xSet 1 (sCall g__law_rest [.bo, .fr] (sCons (sVar 0) (sCons (sVar 4) (sNil)))))
 (xSeq (xFrz 1)
 (xSeq (xSet 5 (sLst (sCons (sB fIdx (sCall g__law_said [] sNil) (sB fMod (sVar 1) (sC (.int 16)))) (sNil))))
 (xSeq (xSet 1 (sB fDiv (sVar 1) (sC (.int 16))))
 (xSeq (xFrz 1)
 (xSeq (xFor (srcF (sCall g__law_marks [.fr] (sCons (sB fIdx (sVar 5) (sC (.int 0))) (sNil)))) (.one 6)
 (lb1_law))
 (xSeq (xSet 7 (sSm "str" mJoin (sC (.str " ")) (sCons (sB fAdd (sLst (sCons (sB fIdx (sVar 5) (sC (.int 0))) (sNil))) (sComp (srcX (sSlc (sVar 5) (oYes (sC (.int 1))) (oNo))) (.one 13) [13] (sYes) (sF (ce1_law)))) (sNil))))
 (xSeq (xFrz 7)
 (xSeq (xSet 8 (sCall g_shown_saying [.fr, .fr] (sCons (sBi bTup (sCons (sVar 5) (sNil))) (sCons (sVar 3) (sNil)))))
 (xSeq (xFrz 8)
 (xSeq (xIf (sOr (sNot (sTru (sIs sub .str (sVar 8)))) (sTest (sB fNe (sVar 8) (sVar 7))))
 (xSeq (xRet (sC (.bl false)))
 (xNil))
 (xNil))
 (xSeq (xSet 7 (sCall g__law_bent [.fr, .fr, .fr] (sCons (sVar 7) (sCons (sCall g__law_mixed [.fr, .fr] (sCons (sB fIdx (sVar 0) (sVar 4)) (sCons (sB fAdd (sVar 4) (sC (.int 40))) (sNil)))) (sCons (sVar 2) (sNil))))))
 (xSeq (xFrz 7)
 (xSeq (xSet 9 (sCall g__law_reader [.fr, .fr] (sCons (sVar 7) (sCons (sVar 2) (sNil)))))
 (xSeq (xFrz 9)
 (xSeq (xSet 10 (sC .non))
 (xSeq (xSet 11 (sC .non))
 (xSeq (xTry sub (tb1_law)
 [⟨16, (some 12), xSeq (xSet 11 (sVar 12))
 (xNil)⟩])
 (xSeq (xIf (sAnd (sTest (sB fIs (sVar 9) (sC .non))) (sOr (sNot (sTru (sCall g__law_alone [.fr] (sCons (sVar 11) (sNil))))) (sTest (sB fNe (sU (fAtt ix_line cs_line) (sVar 11)) (sC (.int 0))))))
 (xSeq (xRet (sC (.bl false)))
 (xNil))
 (xNil))
 (xSeq (xIf (sAnd (sTest (sB fIsNot (sVar 9) (sC .non))) (sOr (sTest (sB fIsNot (sVar 11) (sC .non))) (sNot (sTru (sCall g__law_good [.fr, .fr] (sCons (sVar 10) (sCons (sVar 9) (sNil))))))))
 (xSeq (xRet (sC (.bl false)))
 (xNil))
 (xNil))
 (xSeq (xFgt [4, 5, 6, 7, 8, 9, 10, 11])
 (xNil)))))))))))))))))))))
def ex_law : Ex := xSeq (xSet 1 (sB fDiv (sCall g__law_rest [.bo, .fr] (sCons (sVar 0) (sCons (sC (.int 0)) (sNil)))) (sC (.int 2))))
 (xSeq (xFrz 1)
 (xSeq (xSet 2 (sCall g__law_names [.fr, .fr] (sCons (sCall g__law_rest [.bo, .fr] (sCons (sVar 0) (sCons (sC (.int 1)) (sNil)))) (sCons (sB fAdd (sC (.int 1)) (sB fMod (sVar 1) (sC (.int 24)))) (sNil)))))
 (xSeq (xFrz 2)
 (xSeq (xSet 3 (sBi bList (sCons (sVar 2) (sNil))))
 (xSeq (xFrz 3)
 (xSeq (xFor (srcR2 (sC (.int 2)) (sBi bLen (sCons (sSlc (sVar 0) (oNo) (oYes (sC (.int 40)))) (sNil)))) (.one 4)
 (lb2_law))
 (xSeq (xRet (sB fEq (sVar 3) (sVar 2)))
 (xNil))))))))
def g_law : List Sl → R Sl := runG 14 ex_law
theorem sc_law : FnScope N_law ["_law_script"] (defScope (top 39)) := ⟨rfl, rfl, rfl, by decide +kernel, rfl, by decide +kernel, by decide +kernel⟩
theorem w_law {F : Fx} (Z : Facts F) {X : Cx} {W : WX} {B : Bs} (G : Gx X F N_law (defScope (top 39))) (g : Gs X W 3) : PSs X (defBody (top 39)) (tS F.T W B ex_law) := by
 unfold ex_law lb2_law tb1_law ce1_law lb1_law
 exact pss_xSeq (s_set g.n G 1 (g_div G (g_call G (g.r.mono (by decide)) (bs := [.bo, .fr]) (cal__law_rest Z) g.tk (a_cons (g_var G 0) (a_cons (g_int 0) (pa_sNil)))) (g_int 2)))
    (pss_xFrz (i := 1)
    (pss_xSeq (s_set g.n G 2 (g_call G (g.r.mono (by decide)) (bs := [.fr, .fr]) (cal__law_names Z) g.tk (a_cons (g_call G (g.r.mono (by decide)) (bs := [.bo, .fr]) (cal__law_rest Z) g.tk (a_cons (g_var G 0) (a_cons (g_int 1) (pa_sNil)))) (a_cons (g_add G (g_int 1) (g_mod G (g_var G 1) (g_int 24))) (pa_sNil)))))
    (pss_xFrz (i := 2)
    (pss_xSeq (s_set g.n G 3 (g_ty G (cr_bList G.K) Z.nb_list (by decide +kernel) (a_cons (g_var G 2) (pa_sNil))))
    (pss_xFrz (i := 3)
    (pss_xSeq (s_for g (i_R2 G Z.nb_range (g_int 2) (g_bi G (cr_bLen G.K) Z.nb_len (by decide +kernel) (a_cons (g_slc G (g_var G 0) (po_oNo) (po_oYes (g_int 40))) (pa_sNil)))) tg_one (p_one G 4)
    (pss_xSeq (s_set g.n G 1 (g_call G (g.r.mono (by decide)) (bs := [.bo, .fr]) (cal__law_rest Z) g.tk (a_cons (g_var G 0) (a_cons (g_var G 4) (pa_sNil)))))
    (pss_xFrz (i := 1)
    (pss_xSeq (s_set g.n G 5 (pe_sLst (a_cons (g_idx G (g_call0 G (g.r.mono (by decide)) (cal__law_said Z) g.tk) (g_mod G (g_var G 1) (g_int 16))) (pa_sNil))))
    (pss_xSeq (s_set g.n G 1 (g_div G (g_var G 1) (g_int 16)))
    (pss_xFrz (i := 1)
    (pss_xSeq (s_for g (i_F G (g_call G (g.r.mono (by decide)) (bs := [.fr]) (cal__law_marks Z) g.tk (a_cons (g_idx G (g_var G 5) (g_int 0)) (pa_sNil)))) tg_one (p_one G 6)
    (pss_xSeq (s_mut G 5 PySem.F.slot_list_append PySem.F.type_list_append mt_append mo_app (a_cons (g_mod G (g_var G 1) (g_bi G (cr_bLen G.K) Z.nb_len (by decide +kernel) (a_cons (g_var G 2) (pa_sNil)))) (pa_sNil)))
    (pss_xSeq (s_set g.n G 1 (g_div G (g_var G 1) (g_bi G (cr_bLen G.K) Z.nb_len (by decide +kernel) (a_cons (g_var G 2) (pa_sNil)))))
    (pss_xFrz (i := 1)
    (pss_xFgt (is := [6])
    (pss_xNil))))))
    (pss_xSeq (s_set g.n G 7 (g_sm PySem.F.plainAttrs_str PySem.F.slot_str_join PySem.F.type_str_join (mt_mJoin G.K) (g_str " ") (a_cons (g_add G (pe_sLst (a_cons (g_idx G (g_var G 5) (g_int 0)) (pa_sNil))) (g_comp g.r G [("_law_number", 13)] (i_X G (g_slc G (g_var G 5) (po_oYes (g_int 1)) (po_oNo))) tg_one (fun Y G1 => p_one G1 13) (fun Y G1 R1 => pts_sYes) (fun Y G1 R1 => pe_sF (g_idx G1 (g_var G1 2) (g_var G1 13))))) (pa_sNil))))
    (pss_xFrz (i := 7)
    (pss_xSeq (s_set g.n G 8 (g_call G (g.r.mono (by decide)) (bs := [.fr, .fr]) (cal_shown_saying Z) g.tk (a_cons (g_ty G (cr_bTup G.K) Z.nb_tuple (by decide +kernel) (a_cons (g_var G 5) (pa_sNil))) (a_cons (g_var G 3) (pa_sNil)))))
    (pss_xFrz (i := 8)
    (pss_xSeq (ps_xIf (PW.pt (pw_sOr (pt_sNot (t_tru G (g_isi Z.E G .str Z.nb_isinstance ⟨Z.nb_str, by decide +kernel⟩ (g_var G 8)))) (pw_sOne (t_ne G g.r (g_var G 8) (g_var G 7)))))
    (pss_xSeq (s_ret (g_bl false))
    (pss_xNil))
    (pss_xNil))
    (pss_xSeq (s_set g.n G 7 (g_call G (g.r.mono (by decide)) (bs := [.fr, .fr, .fr]) (cal__law_bent Z) g.tk (a_cons (g_var G 7) (a_cons (g_call G (g.r.mono (by decide)) (bs := [.fr, .fr]) (cal__law_mixed Z) g.tk (a_cons (g_idx G (g_var G 0) (g_var G 4)) (a_cons (g_add G (g_var G 4) (g_int 40)) (pa_sNil)))) (a_cons (g_var G 2) (pa_sNil))))))
    (pss_xFrz (i := 7)
    (pss_xSeq (s_set g.n G 9 (g_call G (g.r.mono (by decide)) (bs := [.fr, .fr]) (cal__law_reader Z) g.tk (a_cons (g_var G 7) (a_cons (g_var G 2) (pa_sNil)))))
    (pss_xFrz (i := 9)
    (pss_xSeq (s_set g.n G 10 (g_non))
    (pss_xSeq (s_set g.n G 11 (g_non))
    (pss_xSeq (s_try Z.E g G (fun Y W2 G2 g2 => pss_xSeq (s_set g2.n G2 10 (g_call G2 (g2.r.mono (by decide)) (bs := [.fr, .fr]) (cal_read_saying Z) g2.tk (a_cons (g_var G2 7) (a_cons (g_var G2 3) (pa_sNil)))))
    (pss_xFrz (i := 10)
    (pss_xNil)))
    (h_cons G g.n 16 (some 12) Z.ex_NoText ⟨rfl, rfl⟩ (fun Y G3 n3 => pss_xSeq (s_set n3 G3 11 (g_var G3 12))
    (pss_xNil))
    (.nil)))
    (pss_xSeq (ps_xIf (PW.pt (pw_sAnd (t_is G (g_var G 9) (g_non)) (pw_sOne (PW.pt (pw_sOr (pt_sNot (t_tru G (g_call G (g.r.mono (by decide)) (bs := [.fr]) (cal__law_alone Z) g.tk (a_cons (g_var G 11) (pa_sNil))))) (pw_sOne (t_ne G g.r (g_att G Z.at_line (g_var G 11)) (g_int 0))))))))
    (pss_xSeq (s_ret (g_bl false))
    (pss_xNil))
    (pss_xNil))
    (pss_xSeq (ps_xIf (PW.pt (pw_sAnd (t_isn G (g_var G 9) (g_non)) (pw_sOne (PW.pt (pw_sOr (t_isn G (g_var G 11) (g_non)) (pw_sOne (pt_sNot (t_tru G (g_call G (g.r.mono (by decide)) (bs := [.fr, .fr]) (cal__law_good Z) g.tk (a_cons (g_var G 10) (a_cons (g_var G 9) (pa_sNil))))))))))))
    (pss_xSeq (s_ret (g_bl false))
    (pss_xNil))
    (pss_xNil))
    (pss_xFgt (is := [4, 5, 6, 7, 8, 9, 10, 11])
    (pss_xNil)))))))))))))))))))))))
    (pss_xSeq (s_ret (g_eq G g.r (g_var G 3) (g_var G 2)))
    (pss_xNil))))))))
theorem cal_law {F : Fx} (Z : Facts F) : Cal F "law" 4 1 g_law := by
  obtain ⟨f, fd, Fd, hm⟩ := Z.fd_law
  exact ⟨f, fd, ["_law_script"], fn_ok Fd sc_law fun X W B G g => w_law Z G g, hm, Fd.kp, Fd.bindsN fun _ _ _ _ _ _ us hl => match us, hl with | [_], _ => rfl⟩
end TT.K82
end
section
set_option maxRecDepth 100000
namespace TT.K82
open PySem PySem.Spec PyProof.Rows L2 TT
def mixV (c k : Int) : Int := let n := (c % 2147483647 * 48271 + k * 69621 + 11) % 2147483647; let m := n * n % 2147483629; m * m % 2147483587
theorem mixed_ok (c k : Int) : g__law_mixed [.fr (.int c), .fr (.int k)] = ok (.fr (.int (mixV c k))) := by
  have h1 : ∀ x : Int, 0 ≤ x % 2147483647 ∧ x % 2147483647 < 2147483647 := fun x => by omega
  have h2 : ∀ x : Int, 0 ≤ x % 2147483629 ∧ x % 2147483629 < 2147483629 := fun x => by omega
  unfold g__law_mixed runG ex__law_mixed
  simp [startD, e_modP, e_mulR]
  rw [e_mulR (by have := h1 (c % 2147483647 * 48271 + k * 69621 + 11); omega) (by have := h1 (c % 2147483647 * 48271 + k * 69621 + 11); omega)]
  simp [e_modP]
  rw [e_mulR (by generalize ((c % 2147483647 * 48271 + k * 69621 + 11) % 2147483647 * ((c % 2147483647 * 48271 + k * 69621 + 11) % 2147483647)) = z; have := h2 z; omega) (by generalize ((c % 2147483647 * 48271 + k * 69621 + 11) % 2147483647 * ((c % 2147483647 * 48271 + k * 69621 + 11) % 2147483647)) = z; have := h2 z; omega)]
  simp [e_modP, mixV]
theorem mixV_nn (c k : Int) : 0 ≤ mixV c k := by
  unfold mixV
  exact Int.emod_nonneg _ (by decide)
def cellV (ns : List Int) (k : Nat) : Int := ns.getD k 0
theorem at_ints (ns : List Int) (k : Nat) (h : k < ns.length) : atI (ns.map D.int) (k : Int) = some (.int (ns.getD k 0)) := by
  unfold atI ixN
  rw [if_pos (by omega), if_pos (by simp; omega)]
  simp [h]
theorem cell_ok (ns : List Int) (k : Nat) (hl : ns.length ≤ 63) : g__law_cell_at [.bor (ns.map D.int), .fr (.int k)] = ok (.fr (.int (cellV ns k))) := by
  unfold g__law_cell_at runG ex__law_cell_at
  by_cases h : k < ns.length
  · simp [startD, h, at_ints, cellV]
  · have h2 : ns[k]? = none := List.getElem?_eq_none (by omega)
    simp [startD, h, cellV, h2]
def restV (ns : List Int) (k : Nat) : Int := if 1000000000000000000 ≤ (if cellV ns k < 0 then -cellV ns k else cellV ns k) then cellV ns k else mixV (cellV ns k) k + mixV (cellV ns k) ((k : Int) + 500) * 2147483587 + mixV (cellV ns k) ((k : Int) + 900) * 2147483587 * 2147483587
theorem rest_ok (ns : List Int) (k : Nat) (hl : ns.length ≤ 63) : g__law_rest [.bor (ns.map D.int), .fr (.int k)] = ok (.fr (.int (restV ns k))) := by
  unfold g__law_rest runG ex__law_rest restV
  have hp : ((10:Int) ^ ((18:Int).toNat)) = 1000000000000000000 := by decide
  simp only [e_xSeq, e_xSet, e_xFrz, e_xIf, startD]
  simp [cell_ok _ _ hl, e_powI, hp]
  by_cases h : (1000000000000000000 : Int) ≤ (if cellV ns k < 0 then -cellV ns k else cellV ns k)
  · simp [h]
  · simp [h, mixed_ok, e_mulR]
/-! ### the words -/
def saidW : List Str := ["inline", "one", "on", "aside", "asquare", "same", "sameline", "far", "areas", "ring", "angles", "evenpair", "touches", "touching", "squareround", "evenround"]
def marksW : List Str := ["ppp", "lll", "pw", "ll", "ll", "pp", "ll", "pppp", "pppppp", "pppp", "pppppp", "pppp", "lc", "cc", "cc", "cc"]
theorem said_ok : g__law_said [] = ok (.own (saidW.map D.str)) := by rfl
theorem marks_ok (j : Nat) (h : j < 16) : g__law_marks [.fr (.str (saidW.getD j ""))] = ok (.fr (.str (marksW.getD j ""))) := by
  match j, h with
  | 0, _ => exact rfl
  | 1, _ => exact rfl
  | 2, _ => exact rfl
  | 3, _ => exact rfl
  | 4, _ => exact rfl
  | 5, _ => exact rfl
  | 6, _ => exact rfl
  | 7, _ => exact rfl
  | 8, _ => exact rfl
  | 9, _ => exact rfl
  | 10, _ => exact rfl
  | 11, _ => exact rfl
  | 12, _ => exact rfl
  | 13, _ => exact rfl
  | 14, _ => exact rfl
  | 15, _ => exact rfl
  | n + 16, h => exact absurd h (by omega)
theorem tab_at (j : Nat) (h : j < 16) : t_SAYINGS.find? (fun q => q.1 == saidW.getD j "") = some (saidW.getD j "", .str (marksW.getD j "")) := by
  match j, h with
  | 0, _ => exact rfl
  | 1, _ => exact rfl
  | 2, _ => exact rfl
  | 3, _ => exact rfl
  | 4, _ => exact rfl
  | 5, _ => exact rfl
  | 6, _ => exact rfl
  | 7, _ => exact rfl
  | 8, _ => exact rfl
  | 9, _ => exact rfl
  | 10, _ => exact rfl
  | 11, _ => exact rfl
  | 12, _ => exact rfl
  | 13, _ => exact rfl
  | 14, _ => exact rfl
  | 15, _ => exact rfl
  | n + 16, h => exact absurd h (by omega)
theorem keys_said : t_SAYINGS.map (·.1) = saidW := by rfl
theorem word_cases (w : Str) : (∃ j, j < 16 ∧ w = saidW.getD j "") ∨ (t_SAYINGS.find? (fun q => q.1 == w) = none ∧ (saidW.map D.str).any (fun y => eqF y (.str w)) = false) := by
  by_cases h : w ∈ saidW
  · obtain ⟨j, hj, e⟩ := List.mem_iff_getElem.mp h
    refine .inl ⟨j, hj, ?_⟩
    rw [List.getD_eq_getElem?_getD, List.getElem?_eq_getElem hj, e]; rfl
  · refine .inr ⟨?_, ?_⟩
    · rw [List.find?_eq_none]
      intro q hq e
      have : q.1 ∈ saidW := by rw [← keys_said]; exact List.mem_map_of_mem hq
      rw [beq_iff_eq.mp e] at this
      exact h this
    · rw [List.any_eq_false]
      intro y hy e
      obtain ⟨z, hz, rfl⟩ := List.mem_map.mp hy
      have : z = w := by simpa [eqF] using e
      rw [this] at hz
      exact h hz
/-! ### sayings -/
def formB : D → Bool
  | .tup (.str w :: rest) => (match t_SAYINGS.find? (fun q => q.1 == w) with
    | some (_, .str m) => rest.length == m.length && rest.all isIntD
    | _ => false)
  | _ => false
def niceB : D → Bool
  | .tup xs => xs.all plainD
  | d => plainD d
theorem isq_str (d : D) (h : plainD d = true) : isQ sub (.fr d) .str = some (match d with | .str _ => true | _ => false) := by cases d <;> first | rfl | cases h
theorem isq_int (d : D) (h : plainD d = true) : isQ sub (.fr d) .int = some (match d with | .int _ => true | .bl _ => true | _ => false) := by cases d <;> first | rfl | cases h
theorem isq_bool (d : D) (h : plainD d = true) : isQ sub (.fr d) .bool = some (match d with | .bl _ => true | _ => false) := by cases d <;> first | rfl | cases h
theorem isq_tup (d : D) (h : plainD d = true) : isQ sub (.fr d) .tuple = some (match d with | .tup _ => true | _ => false) := by cases d <;> first | rfl | cases h
theorem marks_len (j : Nat) (h : j < 16) : (marksW.getD j "").length ≤ 6 := by
  match j, h with
  | 0, _ => exact (by decide : (2:Nat) < 7) |> fun _ => by decide
  | n + 1, h =>
    have : n = 0 ∨ n = 1 ∨ n = 2 ∨ n = 3 ∨ n = 4 ∨ n = 5 ∨ n = 6 ∨ n = 7 ∨ n = 8 ∨ n = 9 ∨ n = 10 ∨ n = 11 ∨ n = 12 ∨ n = 13 ∨ n = 14 := by omega
    rcases this with rfl | rfl | rfl | rfl | rfl | rfl | rfl | rfl | rfl | rfl | rfl | rfl | rfl | rfl | rfl <;> decide
theorem not_ints (r : List D) : decide (((r.filter (fun d => !isIntD d)).length : Int) = 0) = r.all isIntD := by
  induction r with
  | nil => rfl
  | cons d r ih =>
    rw [List.filter_cons, List.all_cons]
    cases h : isIntD d with
    | true => simpa using ih
    | false =>
      simp
      omega
theorem formB_word (j : Nat) (hj : j < 16) (r : List D) : formB (.tup (.str (saidW.getD j "") :: r)) = (r.length == (marksW.getD j "").length && r.all isIntD) := by
  have ht := tab_at j hj
  unfold formB
  dsimp only
  rw [ht]
theorem all_dec (r : List D) : decide (∀ a : D, a ∈ r → isIntD a = true) = r.all isIntD := by
  rw [Bool.eq_iff_iff]; simp
/-- a saying's look -/
def lenD : D → Nat
  | .tup xs => xs.length
  | _ => 0
theorem is_no (d : D) (h : niceB d = true) (h2 : ∀ w r, d ≠ .tup (.str w :: r)) : g_is_saying [.fr d] = ok (.fr (.bl false)) := by
  unfold g_is_saying runG ex_is_saying
  cases d with
  | tup xs =>
    cases xs with
    | nil => simp [startD, e_eqI]
    | cons x xs =>
      have hne : ¬ ((xs.length : Int) + 1 = 0) := by omega
      have hx : plainD x = true := by
        have : (plainD x && xs.all plainD) = true := h
        simp at this; exact this.1
      have : ∀ w, x ≠ .str w := fun w e => h2 w xs (by rw [e])
      cases x <;> first | (cases hx; done) | (exact absurd rfl (this _)) | simp [startD, e_eqI, idx_zero, hne]
  | _ => first | (cases h; done) | simp [startD]
theorem ints_len (r : List D) : decide (((r.filter isIntD).length : Int) = (r.length : Int)) = r.all isIntD := by
  rw [Bool.eq_iff_iff, decide_eq_true_eq]
  rw [show (((r.filter isIntD).length : Int) = (r.length : Int)) ↔ (r.filter isIntD).length = r.length by omega]
  rw [List.length_filter_eq_length_iff, List.all_eq_true]
theorem is_yes (w : Str) (r : List D) (h : r.all plainD = true) (hl : r.length < 4000) : g_is_saying [.fr (.tup (.str w :: r))] = ok (.fr (.bl (formB (.tup (.str w :: r))))) := by
  have hb := line_big
  have filt : r.filter (fun d => (match d with | .int _ => true | .bl _ => true | _ => false) && !(match d with | .bl _ => true | _ => false)) = r.filter isIntD := by
    congr 1; funext d; cases d <;> rfl
  have all_filt := ints_len r
  unfold g_is_saying runG ex_is_saying
  have hne : ¬ ((r.length : Int) + 1 = 0) := by omega
  have hc := compL_eq (i := 2) (cond := cc1_is_saying) (elt := sF ce1_is_saying) (δ := [.fr (.tup (.str w :: r)), .no, .no]) (ds := r) (acc := []) (fun d => (match d with | .int _ => true | .bl _ => true | _ => false) && !(match d with | .bl _ => true | _ => false)) id (by simp) (fun d hd => by
    have hp : plainD d = true := List.all_eq_true.mp h d hd
    cases d <;> first | (cases hp; done) | simp [cc1_is_saying]) (fun d hd _ => by simp [ce1_is_saying]) (by simp; omega)
  rw [filt] at hc
  rcases word_cases w with ⟨j, hj, rfl⟩ | ⟨h1, h2⟩
  · have ht := tab_at j hj
    have hml := marks_len j hj
    have hf := formB_word j hj r
    rw [hf]
    clear hf
    generalize hwe : saidW.getD j "" = w at *
    generalize hme : marksW.getD j "" = m at *
    have hms : m.length ≤ sizeLine := by omega
    have hti : fTabNi t_SAYINGS (.fr (.str w)) = some (.fr (.bl false)) := by
      show some (Sl.fr (D.bl !(t_SAYINGS.find? fun q => q.1 == w).isSome)) = _
      rw [ht]; rfl
    have hta : fTabAt t_SAYINGS (.fr (.str w)) = some (.fr (.str m)) := by
      show ((t_SAYINGS.find? fun q => q.1 == w).map fun q => Sl.fr q.2) = _
      rw [ht]; rfl
    simp [startD, e_eqI, e_neI, idx_zero, hti, hta, slc_tail, itemsS, hne, hc, hms]
    by_cases hA : ((r.filter isIntD).length : Int) = (r.length : Int)
    · have hB : r.all isIntD = true := by rw [← all_filt]; exact decide_eq_true hA
      have hD : (r.length == m.length) = decide ((r.length : Int) = (m.length : Int)) := by
        rw [Bool.eq_iff_iff]; simp; omega
      rw [if_pos hA, hA, hB, hD]
      simp
    · have hB : r.all isIntD = false := by rw [← all_filt]; exact decide_eq_false hA
      rw [if_neg hA, hB]
      simp
  · have hti : fTabNi t_SAYINGS (.fr (.str w)) = some (.fr (.bl true)) := by
      show some (Sl.fr (D.bl !(t_SAYINGS.find? fun q => q.1 == w).isSome)) = _
      rw [h1]; rfl
    simp [startD, e_eqI, e_neI, idx_zero, hti, formB, h1, hne]
theorem is_ok (d : D) (h : niceB d = true) (hl : lenD d < 4000) : g_is_saying [.fr d] = ok (.fr (.bl (formB d))) := by
  by_cases hd : ∃ w r, d = .tup (.str w :: r)
  · obtain ⟨w, r, rfl⟩ := hd
    have h : (plainD (.str w) && r.all plainD) = true := h
    exact is_yes w r (Bool.and_eq_true_iff.mp h).2 (by simp [lenD] at hl; omega)
  · have hn : ∀ w r, d ≠ .tup (.str w :: r) := fun w r e => hd ⟨w, r, e⟩
    rw [is_no d h hn]
    have : formB d = false := by
      unfold formB
      split
      · rename_i w r
        exact absurd rfl (hn w r)
      · rfl
    rw [this]
/-! ### names -/
def small : Str := "abcdefghijklmnopqrstuvwxyz"
def figs : Str := "0123456789"
def inS (x y : Str) : Bool := !(Builtin.Str.occurrences y x 0 y.length 1).isEmpty
def signOk (c : Nat) : Bool := inS ⟨#[c]⟩ small || inS ⟨#[c]⟩ figs
def nameB : D → Bool
  | .str s => s.length != 0 && decide (s.length ≤ 8) && inS ⟨#[s.cps.toList.headD 0]⟩ small && s.cps.toList.all signOk
  | _ => false
/-- a text that may be looked at -/
def fineD : D → Bool
  | .str s => PyData.strOk s && decide (s.length ≤ 4000)
  | d => plainD d
theorem ni_str (x y : Str) : fNotIn (.fr (.str x)) (.fr (.str y)) = some (.fr (.bl (!inS x y))) := rfl
theorem filter_none {α : Type} (f : α → Bool) (l : List α) : decide (((l.filter f).length : Int) = 0) = l.all (fun x => !f x) := by
  rw [Bool.eq_iff_iff, decide_eq_true_eq]
  rw [show (((l.filter f).length : Int) = 0) ↔ (l.filter f).length = 0 by omega]
  simp
theorem signs_all (s : Str) : (signs s).all (fun d => !(match d with | .str x => !inS x small && !inS x figs | _ => false)) = s.cps.toList.all signOk := by
  unfold signs
  rw [List.all_map]
  congr 1
  funext c
  simp [signOk]
theorem name_ok (d : D) (h : fineD d = true) : g_is_name [.fr d] = ok (.fr (.bl (nameB d))) := by
  unfold g_is_name runG ex_is_name
  cases d with
  | str s =>
    have h : (PyData.strOk s && decide (s.length ≤ 4000)) = true := h
    obtain ⟨h1, h2⟩ := Bool.and_eq_true_iff.mp h
    have h2 := of_decide_eq_true h2
    have hb := line_big
    have hs : s.length ≤ sizeLine := by omega
    have he := e_eqS (i := s) (j := "") h1 (by decide +kernel)
    have hc := compL_eq (i := 1) (cond := cc1_is_name) (elt := sF ce1_is_name) (δ := [.fr (.str s), .no]) (ds := signs s) (acc := []) (fun d => match d with | .str x => !inS x small && !inS x figs | _ => false) id (by simp) (fun d hd => by
      obtain ⟨c, hc, rfl⟩ := List.mem_map.mp hd
      simp [cc1_is_name, ni_str, small, figs]
      cases inS ⟨#[c]⟩ "abcdefghijklmnopqrstuvwxyz" <;> simp) (fun d hd _ => by simp [ce1_is_name]) (by simp [signs]; unfold Str.length at hs; omega)
    obtain ⟨⟨cs⟩⟩ := s
    cases cs with
    | nil =>
      have h0 : (⟨⟨[]⟩⟩ : Str) = "" := by rfl
      have he2 := e_eqS (i := "") (j := "") (by decide +kernel) (by decide +kernel)
      have hn : nameB (.str "") = false := by rfl
      rw [h0]
      simp [startD, he2, hn]
    | cons c cs =>
      have h0 : (⟨⟨c :: cs⟩⟩ : Str) ≠ "" := fun e => by cases e
      have hlen : (⟨⟨c :: cs⟩⟩ : Str).length = cs.length + 1 := rfl
      have hix : fIdx (.fr (.str ⟨⟨c :: cs⟩⟩)) (.fr (.int 0)) = some (.fr (.str ⟨#[c]⟩)) := by
        show (if (⟨⟨c :: cs⟩⟩ : Str).length ≤ sizeLine then (atI (c :: cs) 0).map fun c => Sl.fr (D.str ⟨#[c]⟩) else none) = _
        rw [if_pos hs, at_zero]; rfl
      have hs2 : cs.length + 1 ≤ sizeLine := hs
      have hsig := signs_all ⟨⟨c :: cs⟩⟩
      have hf := filter_none (fun d : D => match d with | .str x => !inS x small && !inS x figs | _ => false) (signs ⟨⟨c :: cs⟩⟩)
      rw [hsig] at hf
      have hit : itemsS (.fr (.str ⟨⟨c :: cs⟩⟩)) = some (signs ⟨⟨c :: cs⟩⟩) := rfl
      have hsm : (Str.ofString "abcdefghijklmnopqrstuvwxyz") = small := rfl
      simp only [hsm]
      rw [List.map_id, List.nil_append] at hc
      simp [startD, he, h0, bLen, hs, hlen, hix, ni_str, hs2]
      by_cases h8 : (8 : Int) < (cs.length : Int) + 1
      · have hn : nameB (.str ⟨⟨c :: cs⟩⟩) = false := by
          have : decide ((⟨⟨c :: cs⟩⟩ : Str).length ≤ 8) = false := decide_eq_false (by rw [hlen]; omega)
          simp [nameB, this]
        simp [h8, hn]
      · have h9 : decide ((⟨⟨c :: cs⟩⟩ : Str).length ≤ 8) = true := decide_eq_true (by rw [hlen]; omega)
        have h10 : ((⟨⟨c :: cs⟩⟩ : Str).length != 0) = true := by rw [hlen]; simp
        have hn : nameB (.str ⟨⟨c :: cs⟩⟩) = (inS ⟨#[c]⟩ small && (c :: cs).all signOk) := by
          show ((⟨⟨c :: cs⟩⟩ : Str).length != 0 && decide ((⟨⟨c :: cs⟩⟩ : Str).length ≤ 8) && inS ⟨#[c]⟩ small && (c :: cs).all signOk) = _
          rw [h9, h10]; simp
        rw [hn]
        cases hc0 : inS ⟨#[c]⟩ small with
        | false => simp [h8]
        | true =>
          simp [h8, hit]
          rw [hc]
          simp only [bnd_ok, e_lenO, opt_some, Option.map_some, e_eqI, hf]
          simp
  | _ => first | (cases h; done) | simp [startD, nameB]
theorem filter_pos {α : Type} (f : α → Bool) (l : List α) : decide ((0 : Int) < ((l.filter f).length : Int)) = !l.all (fun x => !f x) := by
  rw [← filter_none, Bool.eq_iff_iff]
  simp <;> omega
def uniqB (ns : List D) : Bool := match strsOf ns with
  | some ss => !decide ((met ss).length < ss.length)
  | none => true
def goodN (ns : List D) : Bool := ns.all nameB && uniqB ns
theorem strs_of_names : ∀ {ns : List D}, ns.all nameB = true → ∃ ss, strsOf ns = some ss ∧ ss.length = ns.length
  | [], _ => ⟨[], rfl, rfl⟩
  | d :: ns, h => by
    rw [List.all_cons, Bool.and_eq_true] at h
    obtain ⟨ss, e, l⟩ := strs_of_names h.2
    cases d with
    | str s =>
      refine ⟨s :: ss, ?_, by simp [l]⟩
      show (strsOf ns).map (s :: ·) = _
      rw [e]; rfl
    | _ => exact absurd h.1 (by simp [nameB])
theorem look_ok (ns : List D) (h : ns.all fineD = true) (hl : ns.length < 4000) : g_look_names [.fr (.lst ns)] = if goodN ns = true then ok (.fr .non) else some (.exc 7 []) := by
  have hb := line_big
  unfold g_look_names runG ex_look_names
  have hc := compL_eq (i := 1) (cond := cc1_look_names) (elt := sF ce1_look_names) (δ := [.fr (.lst ns), .no]) (ds := ns) (acc := []) (fun d => !nameB d) id (by simp) (fun d hd => by
    have hf : fineD d = true := List.all_eq_true.mp h d hd
    simp [cc1_look_names, name_ok d hf, tru]) (fun d hd _ => by simp [ce1_look_names]) (by simp; omega)
  rw [List.map_id, List.nil_append] at hc
  have hp := filter_pos (fun d => !nameB d) ns
  have hnn : (ns.all fun x => !!nameB x) = ns.all nameB := by congr 1; funext x; simp
  rw [hnn] at hp
  have hit : itemsS (.fr (.lst ns)) = some ns := rfl
  unfold goodN
  simp only [startD, e_xSeq, e_xIf, e_sOr, e_sTest, e_sB, e_sBi, e_sCons, e_sComp, e_srcX, e_sVar, e_sC, e_sNil]
  simp [hit, -List.all_eq_true]
  rw [hc]
  simp only [bnd_ok, e_lenO, opt_some, Option.map_some, e_gtI, hp, e_asB]
  cases ha : ns.all nameB with
  | false => simp [xRaise0]
  | true =>
    obtain ⟨ss, e1, e2⟩ := strs_of_names ha
    have hss : ss.length < 4000 := by omega
    have hls : fLenSet (.fr (.lst ns)) = some (.fr (.int ((met ss).length : Nat))) := by
      show (match strsOf ns with
        | some ss => if ss.length < 4000 then some (Sl.fr (.int ((met ss).length : Nat))) else none
        | none => none) = _
      rw [e1]
      show (if ss.length < 4000 then _ else none) = _
      rw [if_pos hss]
    have hu : uniqB ns = !decide ((met ss).length < ss.length) := by unfold uniqB; rw [e1]
    rw [hu]
    simp [hls, asSq, asL, ← e2]
    by_cases hm : (met ss).length < ss.length
    · have : ¬ (ss.length ≤ (met ss).length) := by omega
      simp [hm, this, xRaise0]
    · have : (ss.length ≤ (met ss).length) := by omega
      simp [hm, this]
def inRg (n : Nat) : D → Bool
  | .int i => decide (0 ≤ i) && decide (i < (n : Int))
  | _ => false
def tailD : D → List D
  | .tup (_ :: r) => r
  | _ => []
def nameAt (ns : List D) : D → D
  | .int i => ns.getD i.toNat .non
  | _ => .non
theorem idx_name (ns : List D) (d : D) (h : inRg ns.length d = true) : fIdx (.fr (.lst ns)) (.fr d) = some (.fr (nameAt ns d)) ∧ nameAt ns d ∈ ns := by
  cases d with
  | int i =>
    have h : (decide (0 ≤ i) && decide (i < (ns.length : Int))) = true := h
    obtain ⟨h1, h2⟩ := Bool.and_eq_true_iff.mp h
    have h1 := of_decide_eq_true h1
    have h2 := of_decide_eq_true h2
    have hl : i.toNat < ns.length := by omega
    have hat : atI ns i = some (ns.getD i.toNat .non) := by
      unfold atI ixN
      rw [if_pos h1, if_pos h2]
      simp [hl]
    refine ⟨?_, ?_⟩
    · show (atI ns i).map (fun d => Sl.fr d) = _
      rw [hat]; rfl
    · show ns.getD i.toNat .non ∈ ns
      rw [List.getD_eq_getElem?_getD, List.getElem?_eq_getElem hl]
      exact List.getElem_mem _
  | _ => cases h
theorem strs_bound : ∀ {ds : List D} {ss : List Str}, ds.all nameB = true → strsOf ds = some ss → (ss.map (·.length)).sum ≤ 8 * ss.length
  | [], _, _, e => by cases e; simp
  | d :: ds, ss, h, e => by
    rw [List.all_cons, Bool.and_eq_true] at h
    cases d with
    | str s =>
      obtain ⟨ss', e2, rfl⟩ := Option.map_eq_some_iff.mp (show (strsOf ds).map (s :: ·) = some ss from e)
      have ih := strs_bound h.2 e2
      have h8 : s.length ≤ 8 := by
        have h1 : (s.length != 0 && decide (s.length ≤ 8) && inS ⟨#[s.cps.toList.headD 0]⟩ small && s.cps.toList.all signOk) = true := h.1
        simp only [Bool.and_eq_true, decide_eq_true_eq] at h1
        exact h1.1.1.2
      simp
      omega
    | _ => exact absurd h.1 (by simp [nameB])
theorem form_word (d : D) (h : formB d = true) : ∃ j r, j < 16 ∧ d = .tup (.str (saidW.getD j "") :: r) ∧ r.length ≤ 6 ∧ r.all isIntD = true := by
  unfold formB at h
  split at h
  · rename_i w r
    rcases word_cases w with ⟨j, hj, rfl⟩ | ⟨h1, h2⟩
    · rw [tab_at j hj] at h
      have h : (r.length == (marksW.getD j "").length && r.all isIntD) = true := h
      obtain ⟨h3, h4⟩ := Bool.and_eq_true_iff.mp h
      have := marks_len j hj
      have h5 : r.length = (marksW.getD j "").length := by simpa using h3
      exact ⟨j, r, hj, rfl, by omega, h4⟩
    · rw [h1] at h; cases h
  · cases h
theorem said_len (j : Nat) (h : j < 16) : (saidW.getD j "").length ≤ 11 := by
  have : j = 0 ∨ j = 1 ∨ j = 2 ∨ j = 3 ∨ j = 4 ∨ j = 5 ∨ j = 6 ∨ j = 7 ∨ j = 8 ∨ j = 9 ∨ j = 10 ∨ j = 11 ∨ j = 12 ∨ j = 13 ∨ j = 14 ∨ j = 15 := by omega
  rcases this with rfl | rfl | rfl | rfl | rfl | rfl | rfl | rfl | rfl | rfl | rfl | rfl | rfl | rfl | rfl | rfl <;> decide
end TT.K82
end
section
set_option maxRecDepth 100000
namespace TT.K82
open PySem PySem.Spec PyProof.Rows L2 TT
def wordsW : List Str := ["ask", "bound", "curve", "draw", "even", "free", "gone", "height", "inline", "joined", "known", "line", "meet", "new", "on", "paper", "quick", "round3", "same", "told", "undo", "vast", "way", "xyz"]
def S36 : Str := "abcdefghijklmnopqrstuvwxyz0123456789"
/-- the j-th name -/
structure GoodW (j : Nat) (s : Str) : Prop where
  nm : nameB (.str s) = true
  ok : PyData.strOk s = true
  hd : s.cps.toList.head? = some (97 + j)
theorem word_good : ∀ j : Fin 24, nameB (.str (wordsW.getD j.1 "")) = true ∧ PyData.strOk (wordsW.getD j.1 "") = true ∧ (wordsW.getD j.1 "").cps.toList.head? = some (97 + j.1) := by decide +kernel
theorem sign_good : ∀ m : Fin 36, signOk (S36.cps.toList.getD m.1 0) = true ∧ S36.cps.toList.getD m.1 0 < 0x110000 := by decide +kernel
theorem sign_first : ∀ j : Fin 24, S36.cps.toList.getD j.1 0 = 97 + j.1 ∧ inS ⟨#[97 + j.1]⟩ small = true := by decide +kernel
theorem s36_len : S36.cps.toList.length = 36 := by decide +kernel
theorem idx36 (m : Int) (h0 : 0 ≤ m) (h1 : m < 36) : fIdx (.fr (.str S36)) (.fr (.int m)) = some (.fr (.str ⟨#[S36.cps.toList.getD m.toNat 0]⟩)) := by
  have hb := line_big
  have hl : S36.length ≤ sizeLine := by
    have : S36.length = 36 := by decide +kernel
    omega
  show (if S36.length ≤ sizeLine then (atI S36.cps.toList m).map fun c => Sl.fr (D.str ⟨#[c]⟩) else none) = _
  have : atI S36.cps.toList m = some (S36.cps.toList.getD m.toNat 0) := by
    unfold atI ixN
    rw [if_pos h0, s36_len, if_pos (by omega)]
    have hm : m.toNat < S36.cps.toList.length := by rw [s36_len]; omega
    show (some m.toNat).bind (fun j => S36.cps.toList[j]?) = _
    rw [Option.bind_some, List.getD_eq_getElem?_getD, List.getElem?_eq_getElem hm]; rfl
  rw [if_pos hl, this]; rfl
theorem idxW (j : Nat) (h : j < 24) : fIdx (.fr (.lst (wordsW.map D.str))) (.fr (.int (j : Nat))) = some (.fr (.str (wordsW.getD j ""))) := by
  show (atI (wordsW.map D.str) (j : Nat)).map (fun d => Sl.fr d) = _
  have hl : wordsW.length = 24 := rfl
  have : atI (wordsW.map D.str) (j : Nat) = some (.str (wordsW.getD j "")) := by
    unfold atI ixN
    rw [if_pos (by omega), if_pos (by simp [hl]; omega)]
    simp [hl, h]
  rw [this]; rfl
theorem met_nodup {ss : List Str} (h : ss.Nodup) : met ss = ss := by
  have key : ∀ (l σ : List Str), (σ ++ l).Nodup → l.foldl put1 σ = σ ++ l := fun l => by
    induction l with
    | nil => intro σ _; simp
    | cons x l ih =>
      intro σ hn
      have hx : σ.any (· == x) = false := by
        rw [List.any_eq_false]
        intro y hy e
        have e2 : y = x := by simpa using e
        rw [List.nodup_append] at hn
        exact hn.2.2 y hy x List.mem_cons_self e2
      have hp : put1 σ x = σ ++ [x] := by unfold put1; rw [hx]; rfl
      rw [List.foldl_cons, hp, ih (σ ++ [x]) (by simpa using hn)]
      simp
  simpa [met] using key ss [] (by simpa using h)
theorem strs_map (ss : List Str) : strsOf (ss.map D.str) = some ss := by
  induction ss with
  | nil => rfl
  | cons s ss ih =>
    show (strsOf (ss.map D.str)).map (s :: ·) = _
    rw [ih]; rfl
/-- a list of names as they are made -/
def GoodL (ss : List Str) : Prop := ∀ (j : Nat) (s : Str), ss[j]? = some s → GoodW j s
theorem goodL_nodup {ss : List Str} (h : GoodL ss) : ss.Nodup := by
  refine List.pairwise_iff_getElem.mpr fun i j hi hj hij e2 => ?_
  have g1 := h i ss[i] (by simp [hi])
  have g2 := h j ss[j] (by simp [hj])
  have := g1.hd
  rw [e2, g2.hd] at this
  have := Option.some.inj this
  omega
theorem goodL_goodN {ss : List Str} (h : GoodL ss) : goodN (ss.map D.str) = true := by
  unfold goodN uniqB
  rw [strs_map]
  have h1 : (ss.map D.str).all nameB = true := by
    rw [List.all_map, List.all_eq_true]
    intro s hs
    obtain ⟨j, hj⟩ := List.mem_iff_getElem?.mp hs
    exact (h j s hj).nm
  dsimp only
  rw [h1, met_nodup (goodL_nodup h)]
  simp
theorem name_len {s : Str} (h : nameB (.str s) = true) : s.length ≤ 8 := by
  have h1 : (s.length != 0 && decide (s.length ≤ 8) && inS ⟨#[s.cps.toList.headD 0]⟩ small && s.cps.toList.all signOk) = true := h
  simp only [Bool.and_eq_true, decide_eq_true_eq] at h1
  exact h1.1.1.2
theorem goodL_fine {ss : List Str} (h : GoodL ss) : (ss.map D.str).all fineD = true := by
  rw [List.all_map, List.all_eq_true]
  intro s hs
  obtain ⟨j, hj⟩ := List.mem_iff_getElem?.mp hs
  have g := h j s hj
  have := name_len g.nm
  show (PyData.strOk s && decide (s.length ≤ 4000)) = true
  rw [g.ok, Bool.true_and]
  exact decide_eq_true (by omega)
/-- a name that grows -/
structure Grow (j n : Nat) (s : Str) : Prop where
  len : s.length = n
  ok : PyData.strOk s = true
  hd : s.cps.toList.head? = some (97 + j)
  all : s.cps.toList.all signOk = true
theorem Grow.good {j n : Nat} {s : Str} (g : Grow j n s) (hj : j < 24) (h1 : 1 ≤ n) (h8 : n ≤ 8) : GoodW j s := by
  refine ⟨?_, g.ok, g.hd⟩
  have h0 : s.cps.toList.headD 0 = 97 + j := by rw [List.headD_eq_head?_getD, g.hd]; rfl
  show (s.length != 0 && decide (s.length ≤ 8) && inS ⟨#[s.cps.toList.headD 0]⟩ small && s.cps.toList.all signOk) = true
  rw [h0, g.all, g.len, (sign_first ⟨j, hj⟩).2, decide_eq_true h8]
  have : (n != 0) = true := by simp; omega
  rw [this]; rfl
theorem str_app_len (a : Str) (c : Nat) : (a ++ ⟨#[c]⟩ : Str).length = a.length + 1 := by
  show (a.cps ++ #[c]).size = a.cps.size + 1
  simp
theorem str_app_list (a : Str) (c : Nat) : (a ++ ⟨#[c]⟩ : Str).cps.toList = a.cps.toList ++ [c] := by
  show (a.cps ++ #[c]).toList = _
  simp
theorem Grow.step {j n : Nat} {s : Str} (g : Grow j n s) (m : Fin 36) : Grow j (n + 1) (s ++ ⟨#[S36.cps.toList.getD m.1 0]⟩) := by
  obtain ⟨g1, g2⟩ := sign_good m
  refine ⟨by rw [str_app_len, g.len], ?_, ?_, ?_⟩
  · unfold PyData.strOk
    rw [← Array.all_toList, str_app_list, List.all_append]
    have := g.ok
    unfold PyData.strOk at this
    rw [← Array.all_toList] at this
    rw [this]
    simpa using g2
  · rw [str_app_list, List.head?_append, g.hd]; rfl
  · rw [str_app_list, List.all_append, g.all]
    simpa using g1
theorem Grow.start (j : Nat) (hj : j < 24) : Grow j 1 ⟨#[97 + j]⟩ := by
  obtain ⟨g1, g2⟩ := sign_good ⟨j, by omega⟩
  obtain ⟨f1, f2⟩ := sign_first ⟨j, hj⟩
  rw [f1] at g1
  refine ⟨rfl, ?_, rfl, by simpa using g1⟩
  unfold PyData.strOk
  simp
  omega
/-! ### the names are made -/
theorem sq_small (i : Nat) (h : i ≤ 7) : 0 ≤ (i : Int) * (i : Int) ∧ (i : Int) * (i : Int) ≤ 49 := by
  have h1 : (i : Int) ≤ 7 := by omega
  have h2 : (0 : Int) ≤ i := by omega
  exact ⟨Int.mul_nonneg h2 h2, Int.le_trans (Int.mul_le_mul h1 h1 h2 (by decide)) (by decide)⟩
theorem inner_turn (rest i q1 q3 q4 : Int) (many : D) (ws ns : List D) (jj zz : D) (S s c : Str) (h1 : fMulX (.fr (.int i)) (.fr (.int i)) = some (.fr (.int q1)))
    (h3 : fDiv (.fr (.int rest)) (.fr (.int (16 + q1))) = some (.fr (.int q3))) (h4 : fMod (.fr (.int q3)) (.fr (.int 36)) = some (.fr (.int q4))) (hS : fIdx (.fr (.str S)) (.fr (.int q4)) = some (.fr (.str c))) (hadd : fAdd (.fr (.str s)) (.fr (.str c)) = some (.fr (.str (s ++ c)))) :
    lb1__law_names [.fr (.int rest), .fr many, .fr (.lst ws), .fr (.str S), .own ns, .fr jj, .fr (.str s), .fr zz, .fr (.int i)] = some (.nx [.fr (.int rest), .fr many, .fr (.lst ws), .fr (.str S), .own ns, .fr jj, .fr (.str (s ++ c)), .fr zz, .no]) := by
  unfold lb1__law_names
  simp [h1, h3, h4, hS, hadd]
theorem inner_ok (rest : Int) (many : D) (ws ns : List D) (jj : D) (S : Str) (sg : Nat → Nat) (j : Nat) (size : Nat) (s : Str) (hS : ∀ q : Int, 0 ≤ q → q < 36 → fIdx (.fr (.str S)) (.fr (.int q)) = some (.fr (.str ⟨#[sg q.toNat]⟩)))
    (hG : ∀ (n m : Nat) (s : Str), m < 36 → Grow j n s → Grow j (n + 1) (s ++ ⟨#[sg m]⟩)) (g : Grow j 1 s) (hz : size ≤ 7) :
    ∃ s2, Grow j (1 + size) s2 ∧ forD (.one 8) lb1__law_names ((List.range size).map fun k : Nat => D.int (0 + (k : Int)))
      [.fr (.int rest), .fr many, .fr (.lst ws), .fr (.str S), .own ns, .fr jj, .fr (.str s), .fr (.int (size : Nat)), .no] = some (.nx [.fr (.int rest), .fr many, .fr (.lst ws), .fr (.str S), .own ns, .fr jj, .fr (.str s2), .fr (.int (size : Nat)), .no]) := by
  have hb := line_big
  obtain ⟨δ2, e, s2, g2, rfl⟩ := forD_inv (i := 8) (body := lb1__law_names)
    (fun k δ => ∃ s2, Grow j (1 + k) s2 ∧ δ = [.fr (.int rest), .fr many, .fr (.lst ws), .fr (.str S), .own ns, .fr jj, .fr (.str s2), .fr (.int (size : Nat)), .no])
    (ds := (List.range size).map fun k : Nat => D.int (0 + (k : Int))) (k := 0) ⟨s, g, rfl⟩ (fun i d δ hd hp => by
      obtain ⟨s2, g2, rfl⟩ := hp
      have hi : i < size := by
        have := (List.getElem?_eq_some_iff.mp hd).1
        simpa using this
      have hdv : d = .int (i : Int) := by
        rw [List.getElem?_map, List.getElem?_range hi] at hd
        simp at hd
        exact hd.symm
      subst hdv
      refine ⟨by simp, ?_⟩
      have hq0 : 0 ≤ rest / (16 + (i : Int) * (i : Int)) % 36 := Int.emod_nonneg _ (by decide)
      have hq1 : rest / (16 + (i : Int) * (i : Int)) % 36 < 36 := Int.emod_lt_of_pos _ (by decide)
      have hl : s2.length + (⟨#[sg (rest / (16 + (i : Int) * (i : Int)) % 36).toNat]⟩ : Str).length ≤ sizeLine := by
        show s2.length + 1 ≤ sizeLine
        rw [g2.len]; omega
      obtain ⟨k0, k1⟩ := sq_small i (by omega)
      have e1 := (e_mulX1 (i := (i : Int)) (b := .fr (.int (i : Int)))).trans (e_mulR (i := (i : Int)) (j := (i : Int)) (by omega) (by omega))
      have e2 := e_divP (i := rest) (j := 16 + (i : Int) * (i : Int)) (by omega) (by omega)
      have e3 := e_modP (i := rest / (16 + (i : Int) * (i : Int))) (j := 36) (by decide)
      have ht := inner_turn rest i _ _ _ many ws ns jj (.int (size : Nat)) S s2 _ e1 e2 e3 (hS _ hq0 hq1) (e_addS hl)
      have gs := hG _ (rest / (16 + (i : Int) * (i : Int)) % 36).toNat s2 (by omega) g2
      exact ⟨_, ht, _, by rw [show 1 + (0 + (i + 1)) = 1 + (0 + i) + 1 by omega]; exact gs, rfl⟩)
  refine ⟨s2, ?_, e⟩
  simpa using g2
theorem outer_turn (rest : Int) (many : D) (ws ns : List D) (S w c : Str) (sg : Nat → Nat) (j : Nat) (hS : ∀ q : Int, 0 ≤ q → q < 36 → fIdx (.fr (.str S)) (.fr (.int q)) = some (.fr (.str ⟨#[sg q.toNat]⟩)))
    (hG : ∀ (n m : Nat) (s : Str), m < 36 → Grow j n s → Grow j (n + 1) (s ++ ⟨#[sg m]⟩)) (hw : fIdx (.fr (.lst ws)) (.fr (.int j)) = some (.fr (.str w))) (gw : GoodW j w) (hc : fIdx (.fr (.str S)) (.fr (.int j)) = some (.fr (.str c))) (gc : Grow j 1 c) (hj : j < 24) (hn : ns.length < sizeLine) :
    ∃ s, GoodW j s ∧ lb2__law_names [.fr (.int rest), .fr many, .fr (.lst ws), .fr (.str S), .own ns, .fr (.int j), .no, .no, .no] = some (.nx [.fr (.int (rest / 11 + j)), .fr many, .fr (.lst ws), .fr (.str S), .own (ns ++ [.str s]), .no, .no, .no, .no]) := by
  have e1 := e_divP (i := rest) (j := 2) (by decide) (by decide)
  have e2 := e_modP (i := rest / 2) (j := 8) (by decide)
  have e3 := e_modP (i := rest) (j := 2) (by decide)
  have e4 := e_divP (i := rest) (j := 11) (by decide) (by decide)
  have ha : ∀ s : Str, mApp ns [.str s] = some (ns ++ [.str s]) := fun s => if_pos hn
  obtain ⟨n, hn1, hn2⟩ : ∃ n : Nat, rest / 2 % 8 = (n : Int) ∧ n ≤ 7 := ⟨(rest / 2 % 8).toNat, by omega, by omega⟩
  rw [hn1] at e2
  have hr : inR (n : Int) = true := inR_nat n (by omega)
  have htn : ((n : Int)).toNat = n := by omega
  by_cases hb : rest % 2 = 1
  · obtain ⟨s2, g2, hi⟩ := inner_ok rest many ws ns (.int (j : Nat)) S sg j n c hS hG gc hn2
    refine ⟨s2, g2.good hj (by omega) (by omega), ?_⟩
    simp only [Int.zero_add] at hi
    unfold lb2__law_names
    simp [e1, e2, e3, e4, hw, hc, e_eqI, hb, hr, hi, ha]
  · refine ⟨w, gw, ?_⟩
    unfold lb2__law_names
    simp [e1, e2, e3, e4, hw, hc, e_eqI, hb, ha]
theorem names_loop (rest : Int) (many : D) (n : Nat) (ws : List D) (S : Str) (W C : Nat → Str) (sg : Nat → Nat) (hS : ∀ q : Int, 0 ≤ q → q < 36 → fIdx (.fr (.str S)) (.fr (.int q)) = some (.fr (.str ⟨#[sg q.toNat]⟩)))
    (hG : ∀ (j n m : Nat) (s : Str), m < 36 → Grow j n s → Grow j (n + 1) (s ++ ⟨#[sg m]⟩)) (hw : ∀ j, j < 24 → fIdx (.fr (.lst ws)) (.fr (.int (j : Nat))) = some (.fr (.str (W j))) ∧ GoodW j (W j)) (hc : ∀ j, j < 24 → fIdx (.fr (.str S)) (.fr (.int (j : Nat))) = some (.fr (.str (C j))) ∧ Grow j 1 (C j)) (h2 : n ≤ 24) :
    ∃ (r : Int) (ss : List Str), GoodL ss ∧ ss.length = n ∧ forD (.one 5) lb2__law_names ((List.range n).map fun k : Nat => D.int (0 + (k : Int))) [.fr (.int rest), .fr many, .fr (.lst ws), .fr (.str S), .own [], .no, .no, .no, .no] = some (.nx [.fr (.int r), .fr many, .fr (.lst ws), .fr (.str S), .own (ss.map D.str), .no, .no, .no, .no]) := by
  have hb := line_big
  obtain ⟨δ2, e, r2, ss, g2, l2, rfl⟩ := forD_inv (i := 5) (body := lb2__law_names)
    (fun k δ => ∃ (r : Int) (ss : List Str), GoodL ss ∧ ss.length = k ∧ δ = [.fr (.int r), .fr many, .fr (.lst ws), .fr (.str S), .own (ss.map D.str), .no, .no, .no, .no])
    (ds := (List.range n).map fun k : Nat => D.int (0 + (k : Int))) (k := 0) ⟨rest, [], fun j s h => by simp at h, rfl, rfl⟩ (fun i d δ hd hp => by
      obtain ⟨r, ss, gl, hl, rfl⟩ := hp
      have hi : i < n := by
        have := (List.getElem?_eq_some_iff.mp hd).1
        simpa using this
      have hdv : d = .int (i : Int) := by
        rw [List.getElem?_map, List.getElem?_range hi] at hd
        simp at hd
        exact hd.symm
      subst hdv
      refine ⟨by simp, ?_⟩
      obtain ⟨w1, w2⟩ := hw i (by omega)
      obtain ⟨c1, c2⟩ := hc i (by omega)
      obtain ⟨s, gs, ht⟩ := outer_turn r many ws (ss.map D.str) S _ _ sg i hS (fun n m s hm g => hG i n m s hm g) w1 w2 c1 c2 (by omega) (by simp; omega)
      refine ⟨_, ht, r / 11 + i, ss ++ [s], fun j x hx => ?_, by simp; omega, by simp⟩
      by_cases hj : j < ss.length
      · rw [List.getElem?_append_left hj] at hx
        exact gl j x hx
      · rw [List.getElem?_append_right (by omega)] at hx
        have hj2 : j - ss.length = 0 := by
          cases q : j - ss.length with
          | zero => rfl
          | succ n => rw [q] at hx; simp at hx
        rw [hj2] at hx
        simp at hx
        subst hx
        have : j = i := by omega
        rw [this]; exact gs)
  exact ⟨r2, ss, g2, by simpa using l2, e⟩
end TT.K82
end
section
set_option maxRecDepth 100000
namespace TT.K82
open PySem PySem.Spec PyProof.Rows L2 TT
structure NamesOk (ss : List Str) : Prop where
  all : ∀ s ∈ ss, nameB (.str s) = true ∧ PyData.strOk s = true
  nd : ss.Nodup
theorem GoodL.names {ss : List Str} (h : GoodL ss) : NamesOk ss := ⟨fun s hs => by
  obtain ⟨j, hj⟩ := List.mem_iff_getElem?.mp hs
  exact ⟨(h j s hj).nm, (h j s hj).ok⟩, goodL_nodup h⟩
theorem NamesOk.good {ss : List Str} (h : NamesOk ss) : goodN (ss.map D.str) = true := by
  unfold goodN uniqB
  rw [strs_map]
  have h1 : (ss.map D.str).all nameB = true := by
    rw [List.all_map, List.all_eq_true]
    exact fun s hs => (h.all s hs).1
  dsimp only
  rw [h1, met_nodup h.nd]
  simp
theorem NamesOk.fine {ss : List Str} (h : NamesOk ss) : (ss.map D.str).all fineD = true := by
  rw [List.all_map, List.all_eq_true]
  intro s hs
  obtain ⟨g1, g2⟩ := h.all s hs
  have := name_len g1
  show (PyData.strOk s && decide (s.length ≤ 4000)) = true
  rw [g2, Bool.true_and]
  exact decide_eq_true (by omega)
def repN (c n : Nat) : Str := ⟨(List.replicate n c).toArray⟩
theorem mul_one (c : Nat) (n : Nat) : Txt.mul ⟨#[c]⟩ (n : Int) = repN c n := by
  unfold Txt.mul
  by_cases h0 : n = 0
  · subst h0; rfl
  · by_cases h1 : n = 1
    · subst h1; rfl
    · rw [if_neg (by omega), if_neg (by simp; exact ⟨by omega, by show ¬ (1 = 0); decide⟩)]
      unfold repN
      congr 1
      have key : ∀ (m : Nat) (a : Array Nat), (List.replicate m #[c]).foldl (· ++ ·) a = a ++ (List.replicate m c).toArray := fun m => by
        induction m with
        | zero => intro a; simp
        | succ m ih => intro a; rw [List.replicate_succ, List.foldl_cons, ih, List.replicate_succ]; apply Array.toList_inj.mp; simp
      rw [Int.toNat_natCast, key]; simp
/-- a name of the other sort -/
def alt (m j : Nat) : Str := repN 112 (1 + m) ++ ⟨#[97 + j]⟩ ++ repN 122 (j % 2)
theorem alt_list (m j : Nat) : (alt m j).cps.toList = List.replicate (1 + m) 112 ++ [97 + j] ++ List.replicate (j % 2) 122 := by
  show ((List.replicate (1 + m) 112).toArray ++ #[97 + j] ++ (List.replicate (j % 2) 122).toArray).toList = _
  simp
theorem pz_ok : signOk 112 = true ∧ signOk 122 = true ∧ inS ⟨#[112]⟩ small = true := by decide +kernel
theorem alt_len (m j : Nat) : (alt m j).length = 2 + m + j % 2 := by
  show (alt m j).cps.size = _
  rw [← Array.length_toList, alt_list]; simp; omega
theorem alt_ok (m j : Nat) (hm : m < 6) (hj : j < 24) : nameB (.str (alt m j)) = true ∧ PyData.strOk (alt m j) = true := by
  obtain ⟨p1, p2, p3⟩ := pz_ok
  obtain ⟨g1, g2⟩ := sign_good ⟨j, by omega⟩
  obtain ⟨f1, f2⟩ := sign_first ⟨j, hj⟩
  rw [f1] at g1 g2
  refine ⟨?_, ?_⟩
  · show ((alt m j).length != 0 && decide ((alt m j).length ≤ 8) && inS ⟨#[(alt m j).cps.toList.headD 0]⟩ small && (alt m j).cps.toList.all signOk) = true
    have hh : (alt m j).cps.toList.headD 0 = 112 := by rw [alt_list, show 1 + m = m + 1 by omega, List.replicate_succ]; rfl
    have ha : (alt m j).cps.toList.all signOk = true := by
      rw [alt_list, List.all_append, List.all_append, List.all_replicate, List.all_replicate, p1, p2]
      simp [g1]
    rw [hh, ha, p3, alt_len, decide_eq_true (show 2 + m + j % 2 ≤ 8 by omega)]
    have : (2 + m + j % 2 != 0) = true := by simp
    rw [this]; rfl
  · unfold PyData.strOk
    rw [← Array.all_toList, alt_list, List.all_append, List.all_append, List.all_replicate, List.all_replicate]
    first | (simp; done) | (simp; omega)
theorem alt_inj {m i j : Nat} (h : alt m i = alt m j) : i = j := by
  have h2 : (alt m i).cps.toList = (alt m j).cps.toList := by rw [h]
  rw [alt_list, alt_list, List.append_assoc, List.append_assoc] at h2
  have h3 := List.append_cancel_left h2
  simp at h3
  exact h3.1
theorem alt_names (m n : Nat) (hm : m < 6) (hn : n ≤ 24) : NamesOk ((List.range n).map (alt m)) := by
  refine ⟨fun s hs => ?_, ?_⟩
  · obtain ⟨j, hj, rfl⟩ := List.mem_map.mp hs
    have := List.mem_range.mp hj
    exact alt_ok m j hm (by omega)
  · rw [List.nodup_iff_pairwise_ne, List.pairwise_map]
    exact List.Pairwise.imp (fun h e => h (alt_inj e)) List.nodup_range
theorem p_str : (Str.ofString "p") = ⟨#[112]⟩ := by decide +kernel
theorem z_str : (Str.ofString "z") = ⟨#[122]⟩ := by decide +kernel
theorem rep_len (c n : Nat) : (repN c n).length = n := by
  show (List.replicate n c).toArray.size = n
  simp
theorem app_len (a b : Str) : (a ++ b).length = a.length + b.length := by
  show (a.cps ++ b.cps).size = _
  simp; rfl
theorem one_len (c : Nat) : (⟨#[c]⟩ : Str).length = 1 := rfl
theorem s36_eq : (Str.ofString "abcdefghijklmnopqrstuvwxyz0123456789") = S36 := rfl
theorem comp_ok (rest : Int) (n : Nat) (ws : List D) (hn : n ≤ 24) : compL (.one 5) sYes (sF ce1__law_names) ((List.range n).map fun k : Nat => D.int (k : Int)) [.fr (.int rest), .fr (.int n), .fr (.lst ws), .fr (.str S36), .own [], .no, .no, .no, .no] [] = ok (((List.range n).map (alt (rest / 21 % 6).toNat)).map D.str) := by
  have hb := line_big
  have hm0 : 0 ≤ rest / 21 % 6 := Int.emod_nonneg _ (by decide)
  have hm1 : rest / 21 % 6 < 6 := Int.emod_lt_of_pos _ (by decide)
  obtain ⟨m, hm, hm6⟩ : ∃ m : Nat, rest / 21 % 6 = (m : Int) ∧ m < 6 := ⟨(rest / 21 % 6).toNat, by omega, by omega⟩
  have hc := compL_eq (i := 5) (cond := sYes) (elt := sF ce1__law_names) (δ := [.fr (.int rest), .fr (.int n), .fr (.lst ws), .fr (.str S36), .own [], .no, .no, .no, .no]) (ds := (List.range n).map fun k : Nat => D.int (k : Int)) (acc := []) (fun d => true)
    (fun d => match d with | .int k => .str (alt m k.toNat) | d => d) (by simp) (fun d hd => rfl) (fun d hd _ => by
      obtain ⟨j, hj, rfl⟩ := List.mem_map.mp hd
      have hj := List.mem_range.mp hj
      have hix := idx36 (j : Int) (by omega) (by omega)
      rw [show ((j : Int)).toNat = j by omega, (sign_first ⟨j, by omega⟩).1] at hix
      have k1 : fMulX (.fr (.str ⟨#[112]⟩)) (.fr (.int (1 + (m : Int)))) = some (.fr (.str (repN 112 (1 + m)))) := by
        rw [e_mulXS ⟨by omega, by omega, by rw [one_len]; omega⟩, show (1 + (m : Int)) = ((1 + m : Nat) : Int) by omega, mul_one]
      have k2 : fMulX (.fr (.str ⟨#[122]⟩)) (.fr (.int ((j : Int) % 2))) = some (.fr (.str (repN 122 (j % 2)))) := by
        rw [e_mulXS ⟨by omega, by omega, by rw [one_len]; omega⟩, show ((j : Int) % 2) = ((j % 2 : Nat) : Int) by omega, mul_one]
      have k3 := e_addS (x := repN 112 (1 + m)) (y := ⟨#[97 + j]⟩) (by rw [rep_len, one_len]; omega)
      have k4 := e_addS (x := repN 112 (1 + m) ++ ⟨#[97 + j]⟩) (y := repN 122 (j % 2)) (by rw [app_len, rep_len, rep_len, one_len]; omega)
      simp [ce1__law_names, e_modP, e_divP, p_str, z_str, hm, k1, k2, hix, k3, k4, alt]) (by simp; omega)
  have hf : ∀ l : List D, l.filter (fun _ => true) = l := fun l => by simp
  rw [hc, hm, hf]
  simp [Function.comp_def]
end TT.K82
end
section
set_option maxRecDepth 100000
namespace TT.K82
open PySem PySem.Spec PyProof.Rows L2 TT
theorem names_ok (rest : Int) (many : Nat) (h2 : many ≤ 24) : ∃ ss : List Str, g__law_names [.fr (.int rest), .fr (.int many)] = ok (.own (ss.map D.str)) ∧ ss.length = many ∧ NamesOk ss := by
  have hb := line_big
  have h12 : 12 ≤ sizeLine := by omega
  have h24 : 24 ≤ sizeLine := by omega
  have hr : inR (many : Int) = true := inR_nat many (by omega)
  have htn : ((many : Int)).toNat = many := by omega
  obtain ⟨r, hg, ho, hq⟩ : ∃ r, g__law_names [.fr (.int rest), .fr (.int many)] = ok r ∧ outOk r = true ∧ ∃ ss : List Str, r = .own (ss.map D.str) ∧ ss.length = many ∧ NamesOk ss := by
    unfold g__law_names
    refine wp_run fun R E hR => ?_
    unfold ex__law_names
    rw [show startD 9 [.fr (.int rest), .fr (.int many)] = [.fr (.int rest), .fr (.int many), .no, .no, .no, .no, .no, .no, .no] from rfl]
    (refine wp_seq fun K hK => ?_; simp (disch := first | assumption | omega) [wpX_ite, List.getElem?_cons_zero, e_modP, e_divP, e_mulR, e_mulL, e_powI, e_addS, e_eqI, e_neI, h12]; refine hK _ ?_; clear hK K)
    (refine wp_seq fun K hK => ?_; simp (disch := first | assumption | omega) [wpX_ite, List.getElem?_cons_zero, e_modP, e_divP, e_mulR, e_mulL, e_powI, e_addS, e_eqI, e_neI]; refine hK _ ?_; clear hK K)
    (refine wp_seq fun K hK => ?_; simp (disch := first | assumption | omega) [wpX_ite, List.getElem?_cons_zero, e_modP, e_divP, e_mulR, e_mulL, e_powI, e_addS, e_eqI, e_neI, h12, fAdd, h24]; refine hK _ ?_; clear hK K)
    (refine wp_seq fun K hK => ?_; simp (disch := first | assumption | omega) [wpX_ite, List.getElem?_cons_zero, e_modP, e_divP, e_mulR, e_mulL, e_powI, e_addS, e_eqI, e_neI]; refine hK _ ?_; clear hK K)
    (refine wp_seq fun K hK => ?_; simp (disch := first | assumption | omega) [wpX_ite, List.getElem?_cons_zero, e_modP, e_divP, e_mulR, e_mulL, e_powI, e_addS, e_eqI, e_neI]; refine hK _ ?_; clear hK K)
    (refine wp_seq fun K hK => ?_; simp (disch := first | assumption | omega) [wpX_ite, List.getElem?_cons_zero, e_modP, e_divP, e_mulR, e_mulL, e_powI, e_addS, e_eqI, e_neI]; refine hK _ ?_; clear hK K)
    refine wp_seq fun K hK => ?_
    refine wp_if (c := decide (rest / 7 % 3 = 1)) (by (simp (disch := first | assumption | omega) [wpX_ite, List.getElem?_cons_zero, e_modP, e_divP, e_mulR, e_mulL, e_powI, e_addS, e_eqI, e_neI])) (fun hc => ?_) (fun hc => ?_)
    · refine wp_seq fun K2 hK2 => ?_
      have hcomp := comp_ok rest many (wordsW.map D.str) h2
      rw [← s36_eq] at hcomp
      (simp (disch := first | assumption | omega) [wpX_ite, List.getElem?_cons_zero, e_modP, e_divP, e_mulR, e_mulL, e_powI, e_addS, e_eqI, e_neI, hr, htn])
      have h3 : wordsW.map D.str = [.str "ask", .str "bound", .str "curve", .str "draw", .str "even", .str "free", .str "gone", .str "height", .str "inline", .str "joined", .str "known", .str "line", .str "meet", .str "new", .str "on", .str "paper", .str "quick", .str "round3", .str "same", .str "told", .str "undo", .str "vast", .str "way", .str "xyz"] := rfl
      rw [h3] at hcomp
      rw [hcomp]
      (simp (disch := first | assumption | omega) [wpX_ite, List.getElem?_cons_zero, e_modP, e_divP, e_mulR, e_mulL, e_powI, e_addS, e_eqI, e_neI])
      refine hR _ ⟨(List.range many).map (alt (rest / 21 % 6).toNat), by simp, by simp, alt_names _ _ (by omega) h2⟩
    · refine hK _ ?_
      obtain ⟨r, ss, g, l, e⟩ := names_loop rest (.int many) many (wordsW.map D.str) S36 (fun j => wordsW.getD j "") (fun j => ⟨#[97 + j]⟩) (fun m => S36.cps.toList.getD m 0) idx36 (fun j n m s hm g => g.step ⟨m, hm⟩)
        (fun j hj => ⟨idxW j hj, (word_good ⟨j, hj⟩).1, (word_good ⟨j, hj⟩).2.1, (word_good ⟨j, hj⟩).2.2⟩) (fun j hj => ⟨by
          have hc := idx36 (j : Int) (by omega) (by omega)
          have hti : ((j : Int)).toNat = j := by omega
          rw [hti, (sign_first ⟨j, hj⟩).1] at hc
          exact hc, Grow.start j hj⟩) h2
      have h3 : wordsW.map D.str = [.str "ask", .str "bound", .str "curve", .str "draw", .str "even", .str "free", .str "gone", .str "height", .str "inline", .str "joined", .str "known", .str "line", .str "meet", .str "new", .str "on", .str "paper", .str "quick", .str "round3", .str "same", .str "told", .str "undo", .str "vast", .str "way", .str "xyz"] := rfl
      rw [h3, ← s36_eq] at e
      simp only [Int.zero_add] at e
      (refine wp_seq fun K hK => ?_; simp (disch := first | assumption | omega) [wpX_ite, List.getElem?_cons_zero, e_modP, e_divP, e_mulR, e_mulL, e_powI, e_addS, e_eqI, e_neI, hr, htn, e]; refine hK _ ?_; clear hK K)
      (refine wp_seq fun K hK => ?_; simp (disch := first | assumption | omega) [wpX_ite, List.getElem?_cons_zero, e_modP, e_divP, e_mulR, e_mulL, e_powI, e_addS, e_eqI, e_neI])
      exact hR _ ⟨ss, rfl, l, g.names⟩
  obtain ⟨ss, rfl, h3, h4⟩ := hq
  exact ⟨ss, hg, h3, h4⟩
end TT.K82
end
section
set_option maxRecDepth 100000
namespace TT.K82
open PySem PySem.Spec PyProof.Rows L2 TT
/-! ### texts cut and joined -/
theorem split_glued (x y : Str) : Txt.join y (Txt.split x y) = x := by
  unfold Txt.join Txt.split
  split
  · rfl
  · split
    · rfl
    · exact StrLaws.glued_between_self x y _
theorem split_pos (x y : Str) : 1 ≤ (Txt.split x y).length := by
  unfold Txt.split
  split
  · exact Nat.le_refl _
  · split
    · exact Nat.le_refl _
    · rw [length_partsBetween]; omega
theorem split_size (x y : Str) : ((Txt.split x y).map (·.length)).sum + ((Txt.split x y).length - 1) * y.length = x.length := by
  have h := split_glued x y
  have h2 := size_glued y (Txt.split x y)
  rw [show Builtin.Str.glued y (Txt.split x y) = x from h] at h2
  exact h2.symm
theorem cutS_len (s : Str) (a b : Option Int) : (cutS s a b).length ≤ s.length := by
  show (((s.cps.toList.drop _).take _).toArray).size ≤ s.cps.size
  rw [List.size_toArray, List.length_take, List.length_drop, Array.length_toList]; omega
theorem mem_len : ∀ {ss : List Str} {s : Str}, s ∈ ss → s.length ≤ (ss.map (·.length)).sum
  | x :: ss, s, h => by
    rcases List.mem_cons.mp h with rfl | h
    · simp
    · have := mem_len h; simp; omega
theorem sum_le {ss : List Str} {n : Nat} (h : ∀ s ∈ ss, s.length ≤ n) : (ss.map (·.length)).sum ≤ ss.length * n := by
  induction ss with
  | nil => simp
  | cons s ss ih =>
    have h1 := h s List.mem_cons_self
    have h2 := ih fun x hx => h x (List.mem_cons_of_mem _ hx)
    simp [Nat.succ_mul]; omega
theorem join_ok (ss : List Str) (h : (ss.map (·.length)).sum ≤ 100000) (h2 : ss.length ≤ 100000) : mJoin (.fr (.str " ")) [.own (ss.map D.str)] = some (.fr (.str (Txt.join " " ss))) := by
  show (match strsOf (ss.map D.str) with
    | some ys => if (ys.map fun x : Str => x.length).sum + ys.length * (Str.ofString " ").length ≤ 16777216 then some (Sl.fr (D.str (Txt.join " " ys))) else none
    | none => none) = _
  rw [strs_map]
  have h1 : (Str.ofString " ").length = 1 := rfl
  show (if _ then _ else _) = _
  rw [if_pos (by rw [h1]; omega)]
theorem join_bor (xs : List D) : mJoin (.fr (.str " ")) [.bor xs] = mJoin (.fr (.str " ")) [.own xs] := rfl
theorem join_len (ss : List Str) : (Txt.join " " ss).length ≤ (ss.map (·.length)).sum + ss.length := by
  have h := size_glued " " ss
  have h1 : (Str.ofString " ").length = 1 := rfl
  rw [h1] at h
  show (Builtin.Str.glued " " ss).length ≤ _
  omega
theorem add_s {x y : Str} (h : x.length + y.length ≤ 4000) : fAdd (.fr (.str x)) (.fr (.str y)) = some (.fr (.str (x ++ y))) := e_addS (by have := line_big; omega)
theorem set_map (ss : List Str) (k : Nat) (s : Str) : (ss.map D.str).set k (.str s) = (ss.set k s).map D.str := by rw [List.map_set]
theorem ins_map (ss : List Str) (k : Nat) (s : Str) : (ss.map D.str).take k ++ [.str s] ++ (ss.map D.str).drop k = (ss.take k ++ [s] ++ ss.drop k).map D.str := by simp
theorem bent_ok (t : Str) (number : Int) (ns : List Str) (hn : 0 ≤ number) (h1 : 1 ≤ t.length) (h2 : t.length ≤ 200) (hl : ns.length ≤ 24) (hs : ∀ s ∈ ns, s.length ≤ 8) :
    ∃ t2 : Str, g__law_bent [.fr (.str t), .fr (.int number), .fr (.lst (ns.map D.str))] = ok (.fr (.str t2)) ∧ t2.length ≤ 1000 := by
  have hb := line_big
  obtain ⟨r, hg, ho, hq⟩ : ∃ r, g__law_bent [.fr (.str t), .fr (.int number), .fr (.lst (ns.map D.str))] = ok r ∧ outOk r = true ∧ ∃ t2 : Str, r = .fr (.str t2) ∧ t2.length ≤ 1000 := by
    unfold g__law_bent
    refine wp_run fun R E hR => ?_
    unfold ex__law_bent
    rw [show startD 10 [.fr (.str t), .fr (.int number), .fr (.lst (ns.map D.str))] = [.fr (.str t), .fr (.int number), .fr (.lst (ns.map D.str)), .no, .no, .no, .no, .no, .no, .no] from rfl]
    have hpre : (Str.ofString " -/=019ABZ_~!").length = 13 := by decide +kernel
    generalize Str.ofString " -/=019ABZ_~!" = pre at *
    have hsome : (pre ++ t).length = 13 + t.length := by rw [app_len, hpre]
    (refine wp_seq fun K hK => ?_; simp (disch := first | assumption | omega) [wpX_ite, List.getElem?_cons_zero, e_modP, e_divP, e_mulR, e_mulL, e_powI, e_addS, e_eqI, e_neI, add_s (x := pre) (y := t) (by omega)]; refine hK _ ?_; clear hK K)
    (refine wp_seq fun K hK => ?_; simp (disch := first | assumption | omega) [wpX_ite, List.getElem?_cons_zero, e_modP, e_divP, e_mulR, e_mulL, e_powI, e_addS, e_eqI, e_neI]; refine hK _ ?_; clear hK K)
    have hsl : (pre ++ t).length ≤ sizeLine := by omega
    have htl : t.length ≤ sizeLine := by omega
    have hp : (0 : Int) < ((pre ++ t).length : Nat) := by omega
    obtain ⟨c, hc, _, _⟩ := atI_lt (pre ++ t).cps.toList (number / 9 % ((pre ++ t).length : Nat)) (Int.emod_nonneg _ (by omega)) (by
      have := Int.emod_lt_of_pos (number / 9) hp
      rw [Array.length_toList]; exact this)
    have hp2 : (0 : Int) < (t.length : Nat) + 1 := by omega
    generalize hsm : pre ++ t = sm at *
    (refine wp_seq fun K hK => ?_; simp (disch := first | assumption | omega) [wpX_ite, List.getElem?_cons_zero, e_modP, e_divP, e_mulR, e_mulL, e_powI, e_addS, e_eqI, e_neI, hsl, hc]; refine hK _ ?_; clear hK K)
    (refine wp_seq fun K hK => ?_; simp (disch := first | assumption | omega) [wpX_ite, List.getElem?_cons_zero, e_modP, e_divP, e_mulR, e_mulL, e_powI, e_addS, e_eqI, e_neI]; refine hK _ ?_; clear hK K)
    (refine wp_seq fun K hK => ?_; simp (disch := first | assumption | omega) [wpX_ite, List.getElem?_cons_zero, e_modP, e_divP, e_mulR, e_mulL, e_powI, e_addS, e_eqI, e_neI, htl]; refine hK _ ?_; clear hK K)
    (refine wp_seq fun K hK => ?_; simp (disch := first | assumption | omega) [wpX_ite, List.getElem?_cons_zero, e_modP, e_divP, e_mulR, e_mulL, e_powI, e_addS, e_eqI, e_neI]; refine hK _ ?_; clear hK K)
    obtain ⟨at0, hat, hat2⟩ : ∃ n : Nat, number / 1000 % ((t.length : Nat) + 1 : Int) = (n : Int) ∧ n ≤ t.length := by
      have q0 := Int.emod_nonneg (number / 1000) (b := ((t.length : Nat) + 1 : Int)) (by omega)
      have q1 := Int.emod_lt_of_pos (number / 1000) hp2
      exact ⟨(number / 1000 % ((t.length : Nat) + 1 : Int)).toNat, by omega, by omega⟩
    rw [hat]
    have c1l : (⟨#[c]⟩ : Str).length = 1 := rfl
    refine wp_seq fun K hK => wp_if (c := decide (number % 9 = 1)) (by (simp (disch := first | assumption | omega) [wpX_ite, List.getElem?_cons_zero, e_modP, e_divP, e_mulR, e_mulL, e_powI, e_addS, e_eqI, e_neI])) (fun hc1 => ?_) (fun hc1 => ?_)
    · have k1 := cutS_len t none (some (at0 : Int))
      have k2 := cutS_len t (some (at0 : Int)) none
      refine wp_seq fun K hK => ?_
      (simp (disch := first | assumption | omega) [wpX_ite, List.getElem?_cons_zero, e_modP, e_divP, e_mulR, e_mulL, e_powI, e_addS, e_eqI, e_neI, htl, add_s (x := cutS t none (some (at0 : Int))) (y := ⟨#[c]⟩) (by omega), add_s (x := cutS t none (some (at0 : Int)) ++ ⟨#[c]⟩) (y := cutS t (some (at0 : Int)) none) (by rw [app_len]; omega)])
      exact hR _ ⟨_, rfl, by rw [app_len, app_len]; omega⟩
    refine hK _ ?_
    refine wp_seq fun K hK => wp_if (c := decide (number % 9 = 2)) (by (simp (disch := first | assumption | omega) [wpX_ite, List.getElem?_cons_zero, e_modP, e_divP, e_mulR, e_mulL, e_powI, e_addS, e_eqI, e_neI])) (fun hc2 => ?_) (fun hc2 => ?_)
    · have k1 := cutS_len t none (some (at0 : Int))
      refine wp_seq fun K hK => ?_
      (simp (disch := first | assumption | omega) [wpX_ite, List.getElem?_cons_zero, e_modP, e_divP, e_mulR, e_mulL, e_powI, e_addS, e_eqI, e_neI, htl])
      exact hR _ ⟨_, rfl, by omega⟩
    refine hK _ ?_
    (refine wp_seq fun K hK => ?_; simp (disch := first | assumption | omega) [wpX_ite, List.getElem?_cons_zero, e_modP, e_divP, e_mulR, e_mulL, e_powI, e_addS, e_eqI, e_neI, htl]; refine hK _ ?_; clear hK K)
    (refine wp_seq fun K hK => ?_; simp (disch := first | assumption | omega) [wpX_ite, List.getElem?_cons_zero, e_modP, e_divP, e_mulR, e_mulL, e_powI, e_addS, e_eqI, e_neI]; refine hK _ ?_; clear hK K)
    obtain ⟨a1, ha, ha2⟩ : ∃ n : Nat, (if ((t.length : Nat) : Int) - 1 < (at0 : Int) then ((t.length : Nat) : Int) - 1 else (at0 : Int)) = (n : Int) ∧ n < t.length := by
      by_cases q : ((t.length : Nat) : Int) - 1 < (at0 : Int)
      · rw [if_pos q]; exact ⟨t.length - 1, by omega, by omega⟩
      · rw [if_neg q]; exact ⟨at0, rfl, by omega⟩
    rw [ha]
    refine wp_seq fun K hK => wp_if (c := decide (number % 9 = 3)) (by (simp (disch := first | assumption | omega) [wpX_ite, List.getElem?_cons_zero, e_modP, e_divP, e_mulR, e_mulL, e_powI, e_addS, e_eqI, e_neI])) (fun hc3 => ?_) (fun hc3 => ?_)
    · have k1 := cutS_len t none (some (a1 : Int))
      have k2 := cutS_len t (some ((a1 : Int) + 1)) none
      refine wp_seq fun K hK => ?_
      (simp (disch := first | assumption | omega) [wpX_ite, List.getElem?_cons_zero, e_modP, e_divP, e_mulR, e_mulL, e_powI, e_addS, e_eqI, e_neI, htl, add_s (x := cutS t none (some (a1 : Int))) (y := cutS t (some ((a1 : Int) + 1)) none) (by omega)])
      exact hR _ ⟨_, rfl, by rw [app_len]; omega⟩
    refine hK _ ?_
    refine wp_seq fun K hK => wp_if (c := decide (number % 9 = 4)) (by (simp (disch := first | assumption | omega) [wpX_ite, List.getElem?_cons_zero, e_modP, e_divP, e_mulR, e_mulL, e_powI, e_addS, e_eqI, e_neI])) (fun hc4 => ?_) (fun hc4 => ?_)
    · have k1 := cutS_len t none (some (a1 : Int))
      have k2 := cutS_len t (some ((a1 : Int) + 1)) none
      refine wp_seq fun K hK => ?_
      (simp (disch := first | assumption | omega) [wpX_ite, List.getElem?_cons_zero, e_modP, e_divP, e_mulR, e_mulL, e_powI, e_addS, e_eqI, e_neI, htl, add_s (x := cutS t none (some (a1 : Int))) (y := ⟨#[c]⟩) (by omega), add_s (x := cutS t none (some (a1 : Int)) ++ ⟨#[c]⟩) (y := cutS t (some ((a1 : Int) + 1)) none) (by rw [app_len]; omega)])
      exact hR _ ⟨_, rfl, by rw [app_len, app_len]; omega⟩
    refine hK _ ?_
    refine wp_seq fun K hK => wp_if (c := decide (number % 9 = 5)) (by (simp (disch := first | assumption | omega) [wpX_ite, List.getElem?_cons_zero, e_modP, e_divP, e_mulR, e_mulL, e_powI, e_addS, e_eqI, e_neI])) (fun hc5 => ?_) (fun hc5 => ?_)
    · have k1 := cutS_len t none (some (a1 : Int))
      have k2 := cutS_len t (some ((a1 : Int) + 1)) (some ((a1 : Int) + 2))
      have k3 := cutS_len t (some ((a1 : Int) + 2)) none
      obtain ⟨c2, hc2', _, _⟩ := atI_lt t.cps.toList (a1 : Int) (by omega) (by rw [Array.length_toList]; exact Int.ofNat_lt.mpr ha2)
      have c2l : (⟨#[c2]⟩ : Str).length = 1 := rfl
      (refine wp_seq fun K hK => ?_; simp (disch := first | assumption | omega) [wpX_ite, List.getElem?_cons_zero, e_modP, e_divP, e_mulR, e_mulL, e_powI, e_addS, e_eqI, e_neI, htl]; refine hK _ ?_; clear hK K)
      (refine wp_seq fun K hK => ?_; simp (disch := first | assumption | omega) [wpX_ite, List.getElem?_cons_zero, e_modP, e_divP, e_mulR, e_mulL, e_powI, e_addS, e_eqI, e_neI]; refine hK _ ?_; clear hK K)
      refine wp_seq fun K hK => ?_
      (simp (disch := first | assumption | omega) [wpX_ite, List.getElem?_cons_zero, e_modP, e_divP, e_mulR, e_mulL, e_powI, e_addS, e_eqI, e_neI, htl, hc2', add_s (x := cutS t none (some (a1 : Int))) (y := cutS t (some ((a1 : Int) + 1)) (some ((a1 : Int) + 2))) (by omega), add_s (x := cutS t none (some (a1 : Int)) ++ cutS t (some ((a1 : Int) + 1)) (some ((a1 : Int) + 2))) (y := ⟨#[c2]⟩) (by rw [app_len]; omega),
        add_s (x := cutS t none (some (a1 : Int)) ++ cutS t (some ((a1 : Int) + 1)) (some ((a1 : Int) + 2)) ++ ⟨#[c2]⟩) (y := cutS t (some ((a1 : Int) + 2)) none) (by rw [app_len, app_len]; omega)])
      exact hR _ ⟨_, rfl, by rw [app_len, app_len, app_len]; omega⟩
    refine hK _ ?_
    have hsp : (0 < (Str.ofString " ").length ∧ t.length ≤ 1000000) := ⟨by decide +kernel, by omega⟩
    have ht100 : t.length ≤ 1000000 := by omega
    have hsp0 : 0 < (Str.ofString " ").length := hsp.1
    have s1 := split_pos t " "
    have s2 := split_size t " "
    rw [show (Str.ofString " ").length = 1 from rfl] at s2
    (refine wp_seq fun K hK => ?_; simp (disch := first | assumption | omega) [wpX_ite, List.getElem?_cons_zero, e_modP, e_divP, e_mulR, e_mulL, e_powI, e_addS, e_eqI, e_neI, isTy, hsp0, ht100]; refine hK _ ?_; clear hK K)
    generalize Txt.split t " " = ws at *
    have hwp : (0 : Int) < (ws.length : Nat) := by omega
    (refine wp_seq fun K hK => ?_; simp (disch := first | assumption | omega) [wpX_ite, List.getElem?_cons_zero, e_modP, e_divP, e_mulR, e_mulL, e_powI, e_addS, e_eqI, e_neI]; refine hK _ ?_; clear hK K)
    (refine wp_seq fun K hK => ?_; simp (disch := first | assumption | omega) [wpX_ite, List.getElem?_cons_zero, e_modP, e_divP, e_mulR, e_mulL, e_powI, e_addS, e_eqI, e_neI]; refine hK _ ?_; clear hK K)
    obtain ⟨p0, hp0, hp1⟩ : ∃ n : Nat, number / 9 % ((ws.length : Nat) : Int) = (n : Int) ∧ n < ws.length := by
      have q0 := Int.emod_nonneg (number / 9) (b := ((ws.length : Nat) : Int)) (by omega)
      have q1 := Int.emod_lt_of_pos (number / 9) hwp
      exact ⟨(number / 9 % ((ws.length : Nat) : Int)).toNat, by omega, by omega⟩
    rw [hp0]
    obtain ⟨o, ho1, ho2⟩ : ∃ o : Str, atI (ns.map D.str ++ (saidW.map D.str ++ [.str "", .str "none", .str "free"])) (number / 1000 % ((ns.length : Nat) + 19 : Int)) = some (.str o) ∧ o.length ≤ 20 := by
      have q0 := Int.emod_nonneg (number / 1000) (b := ((ns.length : Nat) + 19 : Int)) (by omega)
      have q1 := Int.emod_lt_of_pos (number / 1000) (show (0 : Int) < (ns.length : Nat) + 19 by omega)
      have hsl : saidW.length = 16 := rfl
      obtain ⟨x, x1, x2, x3⟩ := atI_lt (ns.map D.str ++ (saidW.map D.str ++ [.str "", .str "none", .str "free"])) (number / 1000 % ((ns.length : Nat) + 19 : Int)) q0 (by simp [hsl]; omega)
      rcases List.mem_append.mp x3 with h | h
      · obtain ⟨s, hs2, rfl⟩ := List.mem_map.mp h
        exact ⟨s, x1, by have := hs s hs2; omega⟩
      · have hall : ∀ x ∈ (saidW.map D.str ++ [.str "", .str "none", .str "free"]), ∃ o : Str, x = .str o ∧ o.length ≤ 20 := by
          intro y hy
          have : y = .str "inline" ∨ y = .str "one" ∨ y = .str "on" ∨ y = .str "aside" ∨ y = .str "asquare" ∨ y = .str "same" ∨ y = .str "sameline" ∨ y = .str "far" ∨ y = .str "areas" ∨ y = .str "ring" ∨ y = .str "angles" ∨ y = .str "evenpair" ∨ y = .str "touches" ∨ y = .str "touching" ∨ y = .str "squareround" ∨ y = .str "evenround" ∨ y = .str "" ∨ y = .str "none" ∨ y = .str "free" := by
            simpa [saidW] using hy
          rcases this with rfl | rfl | rfl | rfl | rfl | rfl | rfl | rfl | rfl | rfl | rfl | rfl | rfl | rfl | rfl | rfl | rfl | rfl | rfl <;> exact ⟨_, rfl, by decide +kernel⟩
        obtain ⟨o, rfl, h2⟩ := hall x h
        exact ⟨o, x1, h2⟩
    have hadd1 : fAdd (.fr (.lst (ns.map D.str))) (.own (saidW.map D.str)) = some (.own (ns.map D.str ++ saidW.map D.str)) := by
      show (if (ns.map D.str).length + (saidW.map D.str).length ≤ sizeLine then some (Sl.own (ns.map D.str ++ saidW.map D.str)) else none) = _
      rw [if_pos (by simp [show saidW.length = 16 from rfl]; omega)]
    have hadd2 : fAdd (.own (ns.map D.str ++ saidW.map D.str)) (.own [.str "", .str "none", .str "free"]) = some (.own (ns.map D.str ++ (saidW.map D.str ++ [.str "", .str "none", .str "free"]))) := by
      show (if (ns.map D.str ++ saidW.map D.str).length + [D.str "", .str "none", .str "free"].length ≤ sizeLine then some (Sl.own (ns.map D.str ++ saidW.map D.str ++ [.str "", .str "none", .str "free"])) else none) = _
      rw [if_pos (by simp [show saidW.length = 16 from rfl]; omega), List.append_assoc]
    have h3l : 3 ≤ sizeLine := by omega
    (refine wp_seq fun K hK => ?_; simp (disch := first | assumption | omega) [wpX_ite, List.getElem?_cons_zero, e_modP, e_divP, e_mulR, e_mulL, e_powI, e_addS, e_eqI, e_neI, said_ok, h3l, hadd1, hadd2, ho1]; refine hK _ ?_; clear hK K)
    (refine wp_seq fun K hK => ?_; simp (disch := first | assumption | omega) [wpX_ite, List.getElem?_cons_zero, e_modP, e_divP, e_mulR, e_mulL, e_powI, e_addS, e_eqI, e_neI]; refine hK _ ?_; clear hK K)
    have fin : ∀ ws2 : List Str, (ws2.map (·.length)).sum ≤ 300 → ws2.length ≤ 300 → ∃ t2 : Str, Sl.fr (D.str (Txt.join " " ws2)) = .fr (.str t2) ∧ t2.length ≤ 1000 := fun ws2 a b => ⟨_, rfl, by have := join_len ws2; omega⟩
    refine wp_seq fun K hK => wp_if (c := decide (number % 9 = 6)) (by (simp (disch := first | assumption | omega) [wpX_ite, List.getElem?_cons_zero, e_modP, e_divP, e_mulR, e_mulL, e_powI, e_addS, e_eqI, e_neI])) (fun hc6 => ?_) (fun hc6 => ?_)
    · have hix : ixN ws.length (p0 : Int) = some p0 := by
        unfold ixN
        rw [if_pos (by omega), if_pos (by omega)]; simp
      refine wp_seq fun K2 hK2 => ?_
      (simp (disch := first | assumption | omega) [wpX_ite, List.getElem?_cons_zero, e_modP, e_divP, e_mulR, e_mulL, e_powI, e_addS, e_eqI, e_neI, hix])
      rw [set_map]
      refine hK2 _ (wp_nil (hK _ ?_))
      have h67 : ¬ number % 9 = 7 := by have := of_decide_eq_true hc6; omega
      refine wp_seq fun K hK => wp_if (c := decide (number % 9 = 7)) (by (simp (disch := first | assumption | omega) [wpX_ite, List.getElem?_cons_zero, e_modP, e_divP, e_mulR, e_mulL, e_powI, e_addS, e_eqI, e_neI])) (fun hc7 => absurd (of_decide_eq_true hc7) h67) (fun hc7 => hK _ ?_)
      have hsum : ((ws.set p0 o).map (·.length)).sum ≤ 300 := by
        have key : ∀ (l : List Str) (k : Nat), ((l.set k o).map (·.length)).sum ≤ (l.map (·.length)).sum + 20 := fun l => by
          induction l with
          | nil => intro k; simp
          | cons x l ih =>
            intro k
            cases k with
            | zero => simp only [List.set_cons_zero, List.map_cons, List.sum_cons]; omega
            | succ k => have := ih k; simp only [List.set_cons_succ, List.map_cons, List.sum_cons]; omega
        have := key ws p0
        omega
      have hll : (ws.set p0 o).length ≤ 300 := by simp; omega
      refine wp_seq fun K hK => ?_
      have hj := join_ok (ws.set p0 o) (by omega) (by omega)
      rw [← join_bor] at hj
      generalize ws.set p0 o = ws2 at *
      (simp (disch := first | assumption | omega) [wpX_ite, List.getElem?_cons_zero, e_modP, e_divP, e_mulR, e_mulL, e_powI, e_addS, e_eqI, e_neI, isTy, hj])
      exact hR _ (fin _ hsum hll)
    refine hK _ ?_
    refine wp_seq fun K hK => wp_if (c := decide (number % 9 = 7)) (by (simp (disch := first | assumption | omega) [wpX_ite, List.getElem?_cons_zero, e_modP, e_divP, e_mulR, e_mulL, e_powI, e_addS, e_eqI, e_neI])) (fun hc7 => ?_) (fun hc7 => ?_)
    · have hm := mIns_nat (ws.map D.str) p0 (.str o) (by simp; omega) (by omega)
      rw [ins_map] at hm
      have hsum : ((ws.take p0 ++ [o] ++ ws.drop p0).map (·.length)).sum ≤ 300 := by
        have : ((ws.take p0).map (·.length)).sum + ((ws.drop p0).map (·.length)).sum = (ws.map (·.length)).sum := by
          rw [← List.sum_append, ← List.map_append, List.take_append_drop]
        simp only [List.map_append, List.sum_append, List.map_cons, List.map_nil, List.sum_cons, List.sum_nil]
        omega
      have hll : (ws.take p0 ++ [o] ++ ws.drop p0).length ≤ 300 := by simp; omega
      have hj := join_ok (ws.take p0 ++ [o] ++ ws.drop p0) (by omega) (by omega)
      rw [← join_bor] at hj
      generalize ws.take p0 ++ [o] ++ ws.drop p0 = ws2 at *
      refine wp_seq fun K2 hK2 => ?_
      (simp (disch := first | assumption | omega) [wpX_ite, List.getElem?_cons_zero, e_modP, e_divP, e_mulR, e_mulL, e_powI, e_addS, e_eqI, e_neI, hm])
      refine hK2 _ (wp_nil (hK _ ?_))
      refine wp_seq fun K hK => ?_
      (simp (disch := first | assumption | omega) [wpX_ite, List.getElem?_cons_zero, e_modP, e_divP, e_mulR, e_mulL, e_powI, e_addS, e_eqI, e_neI, isTy, hj])
      exact hR _ (fin _ hsum hll)
    refine hK _ ?_
    refine wp_seq fun K hK => ?_
    have hj := join_ok ws (by omega) (by omega)
    rw [← join_bor] at hj
    (simp (disch := first | assumption | omega) [wpX_ite, List.getElem?_cons_zero, e_modP, e_divP, e_mulR, e_mulL, e_powI, e_addS, e_eqI, e_neI, isTy, hj])
    exact hR _ (fin _ (by omega) (by omega))
  obtain ⟨t2, rfl, h3⟩ := hq
  exact ⟨t2, hg, h3⟩
end TT.K82
end
section
set_option maxRecDepth 100000
namespace TT.K82
open PySem PySem.Spec PyProof.Rows L2 TT
theorem all_flat (ns : List Str) : (ns.map D.str).all flat = true := by
  rw [List.all_map, List.all_eq_true]; intros; rfl
theorem in_names (x : Str) (ns : List Str) : fNotIn (.fr (.str x)) (.fr (.lst (ns.map D.str))) = some (.fr (.bl (!ns.contains x))) := by
  show (if flat (.str x) && (ns.map D.str).all flat then some ((ns.map D.str).any fun y => eqF y (.str x)) else none).map _ = _
  rw [all_flat]
  have : ((ns.map D.str).any fun y => eqF y (.str x)) = ns.contains x := by
    rw [List.any_map]
    induction ns with
    | nil => rfl
    | cons n ns ih =>
      rw [List.any_cons, ih, List.contains_cons]
      congr 1
      exact BEq.comm
  rw [this]; rfl
theorem in_y (x : Str) (ns : List Str) (h : ns.contains x = true) : fNotIn (.fr (.str x)) (.fr (.lst (ns.map D.str))) = some (.fr (.bl false)) := by rw [in_names, h]; rfl
theorem in_n (x : Str) (ns : List Str) (h : ns.contains x = false) : fNotIn (.fr (.str x)) (.fr (.lst (ns.map D.str))) = some (.fr (.bl true)) := by rw [in_names, h]; rfl
def ixOf (x : Str) (ns : List Str) : Int := match findFlat (.str x) (ns.map D.str) 0 with
  | some i => (i : Nat)
  | none => 0
theorem find_names (x : Str) : ∀ (ns : List Str) (k : Nat), ns.contains x = true → ∃ i, findFlat (.str x) (ns.map D.str) k = some i
  | [], _, h => by simp at h
  | n :: ns, k, h => by
    show ∃ i, (if eqF (.str n) (.str x) = true then some k else findFlat (.str x) (ns.map D.str) (k + 1)) = some i
    by_cases e : eqF (.str n) (.str x) = true
    · rw [if_pos e]; exact ⟨_, rfl⟩
    · rw [if_neg e]
      refine find_names x ns (k + 1) ?_
      rw [List.contains_cons] at h
      have : (x == n) = false := by
        have e2 : ¬ (n == x) = true := e
        rw [beq_eq_false_iff_ne]; intro z; exact e2 (by rw [z]; simp)
      rw [this] at h; simpa using h
theorem index_names (x : Str) (ns : List Str) (h : ns.contains x = true) : mIndex (.fr (.lst (ns.map D.str))) [.fr (.str x)] = some (.fr (.int (ixOf x ns))) := by
  obtain ⟨i, e⟩ := find_names x ns 0 h
  show (if flat (.str x) && (ns.map D.str).all flat then (findFlat (.str x) (ns.map D.str) 0).map fun i => Sl.fr (.int (i : Nat)) else none) = _
  rw [all_flat, e]
  unfold ixOf
  rw [e]; rfl
/-- the words of a saying's text -/
def wordsOk (w : Str) (rest ns : List Str) : Prop := (∃ j, j < 16 ∧ w = saidW.getD j "" ∧ rest.length = (marksW.getD j "").length) ∧ ∀ x ∈ rest, ns.contains x = true
theorem comp_ix (i : Nat) (elt : Ev Sl) (δ : Dl) (ns rest : List Str) (hi : i < δ.length) (he : ∀ x, ns.contains x = true → sF elt (δ.set i (.fr (.str x))) = ok (.int (ixOf x ns))) (h : ∀ x ∈ rest, ns.contains x = true) (hl : rest.length ≤ 4000) :
    compL (.one i) sYes (sF elt) (rest.map D.str) δ [] = ok (rest.map fun x => .int (ixOf x ns)) := by
  have hb := line_big
  have hc := compL_eq (i := i) (cond := sYes) (elt := sF elt) (δ := δ) (ds := rest.map D.str) (acc := []) (fun d => true) (fun d => match d with | .str x => .int (ixOf x ns) | d => d) hi (fun d hd => rfl) (fun d hd _ => by
    obtain ⟨x, hx, rfl⟩ := List.mem_map.mp hd
    exact he x (h x hx)) (by simp; omega)
  have hf : ∀ l : List D, l.filter (fun _ => true) = l := fun l => by simp
  rw [hc, hf]
  simp [Function.comp_def]
theorem sp_len : (Str.ofString " ").length = 1 := rfl
theorem tab_len (w : Str) : (∃ j, j < 16 ∧ w = saidW.getD j "" ∧ fTabNi t_SAYINGS (.fr (.str w)) = some (.fr (.bl false)) ∧ fTabAt t_SAYINGS (.fr (.str w)) = some (.fr (.str (marksW.getD j ""))) ∧ g__law_marks [.fr (.str w)] = ok (.fr (.str (marksW.getD j ""))) ∧ (saidW.map D.str).any (fun y => eqF y (.str w)) = true) ∨
    ((¬ ∃ j, j < 16 ∧ w = saidW.getD j "") ∧ fTabNi t_SAYINGS (.fr (.str w)) = some (.fr (.bl true)) ∧ (saidW.map D.str).any (fun y => eqF y (.str w)) = false) := by
  rcases word_cases w with ⟨j, hj, e⟩ | ⟨h1, h2⟩
  · refine .inl ⟨j, hj, e, ?_, ?_, ?_, ?_⟩
    · rw [e]
      show some (Sl.fr (D.bl !(t_SAYINGS.find? fun q => q.1 == saidW.getD j "").isSome)) = _
      rw [tab_at j hj]; rfl
    · rw [e]
      show ((t_SAYINGS.find? fun q => q.1 == saidW.getD j "").map fun q => Sl.fr q.2) = _
      rw [tab_at j hj]; rfl
    · rw [e]; exact marks_ok j hj
    · rw [e, List.any_eq_true]
      have hl : saidW.length = 16 := rfl
      refine ⟨.str (saidW.getD j ""), List.mem_map_of_mem ?_, by simp [eqF]⟩
      rw [List.getD_eq_getElem?_getD, List.getElem?_eq_getElem (by omega)]
      exact List.getElem_mem _
  · refine .inr ⟨fun ⟨j, hj, e⟩ => ?_, ?_, h2⟩
    · rw [e, tab_at j hj] at h1; cases h1
    · show some (Sl.fr (D.bl !(t_SAYINGS.find? fun q => q.1 == w).isSome)) = _
      rw [h1]; rfl
theorem said_in (w : Str) : fNotIn (.fr (.str w)) (.own (saidW.map D.str)) = some (.fr (.bl (!(saidW.map D.str).any fun y => eqF y (.str w)))) := by rfl
theorem marks_inj : ∀ i : Fin 16, ∀ j : Fin 16, saidW.getD i.1 "" = saidW.getD j.1 "" → i = j := by decide +kernel
section
variable (t w : Str) (rest ns : List Str) (hw : Txt.split t " " = w :: rest) (ht : t.length ≤ 100000) (hr : rest.length ≤ 4000)
include hw ht hr
theorem read_yes (h : wordsOk w rest ns) : g_read_saying [.fr (.str t), .fr (.lst (ns.map D.str))] = ok (.fr (.tup (.str w :: rest.map fun x => .int (ixOf x ns)))) := by
  have hb := line_big
  obtain ⟨⟨j, hj, hwj, hlen⟩, hall⟩ := h
  unfold g_read_saying
  refine wp_ok fun N R E hR => ?_
  unfold ex_read_saying
  rw [show startD 4 [.fr (.str t), .fr (.lst (ns.map D.str))] = [.fr (.str t), .fr (.lst (ns.map D.str)), .no, .no] from rfl]
  have ht2 : t.length ≤ 1000000 := by omega
  (refine wp_seq fun K hK => ?_; simp (disch := first | assumption | omega) [wpX_ite, List.getElem?_cons_zero, e_modP, e_divP, e_mulR, e_mulL, e_powI, e_addS, e_eqI, e_neI, isTy, sp_len, ht2, hw]; refine hK _ ?_; clear hK K)
  (refine wp_seq fun K hK => ?_; simp (disch := first | assumption | omega) [wpX_ite, List.getElem?_cons_zero, e_modP, e_divP, e_mulR, e_mulL, e_powI, e_addS, e_eqI, e_neI]; refine hK _ ?_; clear hK K)
  rcases tab_len w with ⟨i, hi, e, h1, h2, _, _⟩ | ⟨h0, _, _⟩
  · have hij : i = j := by
      have := marks_inj ⟨i, hi⟩ ⟨j, hj⟩ (by rw [← e, hwj])
      simpa using this
    subst hij
    have hml := marks_len i hi
    have hms : (marksW.getD i "").length ≤ sizeLine := by omega
    generalize marksW.getD i "" = m at *
    refine wp_seq fun K hK => wp_if (c := false) (by (simp (disch := first | assumption | omega) [wpX_ite, List.getElem?_cons_zero, e_modP, e_divP, e_mulR, e_mulL, e_powI, e_addS, e_eqI, e_neI, h1, h2, hms, hlen])) (fun h => by cases h) (fun _ => hK _ ?_)
    refine wp_seq fun K hK => ?_
    refine wp_for (fun j δ => δ = [.fr (.str t), .fr (.lst (ns.map D.str)), .fr (.lst (.str w :: rest.map D.str)), .no]) (ds := rest.map D.str) (by (simp (disch := first | assumption | omega) [wpX_ite, List.getElem?_cons_zero, e_modP, e_divP, e_mulR, e_mulL, e_powI, e_addS, e_eqI, e_neI, cut_tail])) rfl (fun j d δ hd hp => ?_) (fun δ hp => ?_)
    · subst hp
      obtain ⟨x, hx, rfl⟩ := List.mem_map.mp (List.mem_of_getElem? hd)
      refine ⟨by simp, fun K hK => ?_⟩
      unfold lb1_read_saying
      refine wp_seq fun K2 hK2 => wp_if (c := false) (by (simp (disch := first | assumption | omega) [wpX_ite, List.getElem?_cons_zero, e_modP, e_divP, e_mulR, e_mulL, e_powI, e_addS, e_eqI, e_neI, in_y x ns (hall x hx)])) (fun h => by cases h) (fun _ => hK2 _ ?_)
      (refine wp_seq fun K hK => ?_; simp (disch := first | assumption | omega) [wpX_ite, List.getElem?_cons_zero, e_modP, e_divP, e_mulR, e_mulL, e_powI, e_addS, e_eqI, e_neI]; refine hK _ ?_; clear hK K)
      exact wp_nil (hK _ rfl)
    · subst hp
      refine hK _ ?_
      have hc := comp_ix 3 ce1_read_saying [.fr (.str t), .fr (.lst (ns.map D.str)), .fr (.lst (.str w :: rest.map D.str)), .no] ns rest (by simp) (fun x hx => by unfold ce1_read_saying; (simp (disch := first | assumption | omega) [wpX_ite, List.getElem?_cons_zero, e_modP, e_divP, e_mulR, e_mulL, e_powI, e_addS, e_eqI, e_neI, isTy, index_names x ns hx])) hall hr
      have h1l : 1 ≤ sizeLine := by omega
      have hadd : fAdd (.own [.str w]) (.own (rest.map fun x => .int (ixOf x ns))) = some (.own (.str w :: rest.map fun x => .int (ixOf x ns))) := by
        show (if [D.str w].length + (rest.map fun x => D.int (ixOf x ns)).length ≤ sizeLine then some (Sl.own ([D.str w] ++ rest.map fun x => D.int (ixOf x ns))) else none) = _
        rw [if_pos (by simp; omega)]; rfl
      refine wp_seq fun K hK => ?_
      (simp (disch := first | assumption | omega) [wpX_ite, List.getElem?_cons_zero, e_modP, e_divP, e_mulR, e_mulL, e_powI, e_addS, e_eqI, e_neI, cut_tail, hc, h1l, hadd])
      exact hR
  · exact absurd ⟨j, hj, hwj⟩ h0
theorem read_no (h : ¬ wordsOk w rest ns) : g_read_saying [.fr (.str t), .fr (.lst (ns.map D.str))] = some (.exc 16 [.int 0]) := by
  have hb := line_big
  unfold g_read_saying
  refine wp_exc fun N R E hE => ?_
  unfold ex_read_saying
  rw [show startD 4 [.fr (.str t), .fr (.lst (ns.map D.str))] = [.fr (.str t), .fr (.lst (ns.map D.str)), .no, .no] from rfl]
  have ht2 : t.length ≤ 1000000 := by omega
  (refine wp_seq fun K hK => ?_; simp (disch := first | assumption | omega) [wpX_ite, List.getElem?_cons_zero, e_modP, e_divP, e_mulR, e_mulL, e_powI, e_addS, e_eqI, e_neI, isTy, sp_len, ht2, hw]; refine hK _ ?_; clear hK K)
  (refine wp_seq fun K hK => ?_; simp (disch := first | assumption | omega) [wpX_ite, List.getElem?_cons_zero, e_modP, e_divP, e_mulR, e_mulL, e_powI, e_addS, e_eqI, e_neI]; refine hK _ ?_; clear hK K)
  rcases tab_len w with ⟨i, hi, e, h1, h2, _, _⟩ | ⟨h0, h1, _⟩
  · have hml := marks_len i hi
    have hms : (marksW.getD i "").length ≤ sizeLine := by omega
    have hno : rest.length = (marksW.getD i "").length → ¬ ∀ x ∈ rest, ns.contains x = true := fun a b => h ⟨⟨i, hi, e, a⟩, b⟩
    generalize marksW.getD i "" = m at *
    refine wp_seq fun K hK => wp_if (c := decide ¬ (((rest.length : Nat) : Int) = (m.length : Nat))) (by (simp (disch := first | assumption | omega) [wpX_ite, List.getElem?_cons_zero, e_modP, e_divP, e_mulR, e_mulL, e_powI, e_addS, e_eqI, e_neI, h1, h2, hms])) (fun hc => ?_) (fun hc => hK _ ?_)
    · refine wp_seq fun K hK => ?_
      (simp (disch := first | assumption | omega) [wpX_ite, List.getElem?_cons_zero, e_modP, e_divP, e_mulR, e_mulL, e_powI, e_addS, e_eqI, e_neI])
      exact hE _
    · have hno := hno (by have := of_decide_eq_false hc; omega)
      refine wp_seq fun K hK => ?_
      refine wp_for (fun j δ => δ = [.fr (.str t), .fr (.lst (ns.map D.str)), .fr (.lst (.str w :: rest.map D.str)), .no] ∧ ∀ i x, i < j → rest[i]? = some x → ns.contains x = true) (ds := rest.map D.str) (by (simp (disch := first | assumption | omega) [wpX_ite, List.getElem?_cons_zero, e_modP, e_divP, e_mulR, e_mulL, e_powI, e_addS, e_eqI, e_neI, cut_tail])) ⟨rfl, fun i x hi => by omega⟩ (fun j d δ hd hp => ?_) (fun δ hp => ?_)
      · obtain ⟨rfl, hp⟩ := hp
        rw [List.getElem?_map] at hd
        obtain ⟨x, hx, rfl⟩ := Option.map_eq_some_iff.mp hd
        refine ⟨by simp, fun K hK => ?_⟩
        unfold lb1_read_saying
        cases hxx : ns.contains x with
        | true =>
          refine wp_seq fun K2 hK2 => wp_if (c := false) (by (simp (disch := first | assumption | omega) [wpX_ite, List.getElem?_cons_zero, e_modP, e_divP, e_mulR, e_mulL, e_powI, e_addS, e_eqI, e_neI, in_y x ns hxx])) (fun h => by cases h) (fun _ => hK2 _ ?_)
          (refine wp_seq fun K hK => ?_; simp (disch := first | assumption | omega) [wpX_ite, List.getElem?_cons_zero, e_modP, e_divP, e_mulR, e_mulL, e_powI, e_addS, e_eqI, e_neI]; refine hK _ ?_; clear hK K)
          refine wp_nil (hK _ ⟨rfl, fun i y hi hy => ?_⟩)
          by_cases hij : i = j
          · subst hij; rw [hx] at hy; cases hy; exact hxx
          · exact hp i y (by omega) hy
        | false =>
          refine wp_seq fun K2 hK2 => wp_if (c := true) (by (simp (disch := first | assumption | omega) [wpX_ite, List.getElem?_cons_zero, e_modP, e_divP, e_mulR, e_mulL, e_powI, e_addS, e_eqI, e_neI, in_n x ns hxx])) (fun _ => ?_) (fun h => by cases h)
          refine wp_seq fun K hK => ?_
          (simp (disch := first | assumption | omega) [wpX_ite, List.getElem?_cons_zero, e_modP, e_divP, e_mulR, e_mulL, e_powI, e_addS, e_eqI, e_neI])
          exact hE _
      · exfalso
        refine hno fun x hx => ?_
        obtain ⟨i, hi⟩ := List.mem_iff_getElem?.mp hx
        exact hp.2 i x (by rw [List.length_map]; exact (List.getElem?_eq_some_iff.mp hi).1) hi
  · refine wp_seq fun K hK => wp_if (c := true) (by (simp (disch := first | assumption | omega) [wpX_ite, List.getElem?_cons_zero, e_modP, e_divP, e_mulR, e_mulL, e_powI, e_addS, e_eqI, e_neI, h1])) (fun hc => ?_) (fun hc => by cases hc)
    refine wp_seq fun K hK => ?_
    (simp (disch := first | assumption | omega) [wpX_ite, List.getElem?_cons_zero, e_modP, e_divP, e_mulR, e_mulL, e_powI, e_addS, e_eqI, e_neI])
    exact hE _
theorem reader_yes (h : wordsOk w rest ns) : g__law_reader [.fr (.str t), .fr (.lst (ns.map D.str))] = ok (.fr (.tup (.str w :: rest.map fun x => .int (ixOf x ns)))) := by
  have hb := line_big
  obtain ⟨⟨j, hj, hwj, hlen⟩, hall⟩ := h
  unfold g__law_reader
  refine wp_ok fun N R E hR => ?_
  unfold ex__law_reader
  rw [show startD 4 [.fr (.str t), .fr (.lst (ns.map D.str))] = [.fr (.str t), .fr (.lst (ns.map D.str)), .no, .no] from rfl]
  have ht2 : t.length ≤ 1000000 := by omega
  (refine wp_seq fun K hK => ?_; simp (disch := first | assumption | omega) [wpX_ite, List.getElem?_cons_zero, e_modP, e_divP, e_mulR, e_mulL, e_powI, e_addS, e_eqI, e_neI, isTy, sp_len, ht2, hw]; refine hK _ ?_; clear hK K)
  (refine wp_seq fun K hK => ?_; simp (disch := first | assumption | omega) [wpX_ite, List.getElem?_cons_zero, e_modP, e_divP, e_mulR, e_mulL, e_powI, e_addS, e_eqI, e_neI]; refine hK _ ?_; clear hK K)
  rcases tab_len w with ⟨i, hi, e, _, _, h1, h2⟩ | ⟨h0, _, _⟩
  · have hij : i = j := by
      have := marks_inj ⟨i, hi⟩ ⟨j, hj⟩ (by rw [← e, hwj])
      simpa using this
    subst hij
    have hml := marks_len i hi
    have hms : (marksW.getD i "").length ≤ sizeLine := by omega
    generalize marksW.getD i "" = m at *
    have hsi := said_in w
    rw [h2] at hsi
    refine wp_seq fun K hK => wp_if (c := false) (by (simp (disch := first | assumption | omega) [wpX_ite, List.getElem?_cons_zero, e_modP, e_divP, e_mulR, e_mulL, e_powI, e_addS, e_eqI, e_neI, said_ok, hsi, h1, hms, hlen])) (fun h => by cases h) (fun _ => hK _ ?_)
    refine wp_seq fun K hK => ?_
    refine wp_for (fun j δ => δ = [.fr (.str t), .fr (.lst (ns.map D.str)), .fr (.lst (.str w :: rest.map D.str)), .no]) (ds := rest.map D.str) (by (simp (disch := first | assumption | omega) [wpX_ite, List.getElem?_cons_zero, e_modP, e_divP, e_mulR, e_mulL, e_powI, e_addS, e_eqI, e_neI, cut_tail])) rfl (fun j d δ hd hp => ?_) (fun δ hp => ?_)
    · subst hp
      obtain ⟨x, hx, rfl⟩ := List.mem_map.mp (List.mem_of_getElem? hd)
      refine ⟨by simp, fun K hK => ?_⟩
      unfold lb1__law_reader
      refine wp_seq fun K2 hK2 => wp_if (c := false) (by (simp (disch := first | assumption | omega) [wpX_ite, List.getElem?_cons_zero, e_modP, e_divP, e_mulR, e_mulL, e_powI, e_addS, e_eqI, e_neI, in_y x ns (hall x hx)])) (fun h => by cases h) (fun _ => hK2 _ ?_)
      (refine wp_seq fun K hK => ?_; simp (disch := first | assumption | omega) [wpX_ite, List.getElem?_cons_zero, e_modP, e_divP, e_mulR, e_mulL, e_powI, e_addS, e_eqI, e_neI]; refine hK _ ?_; clear hK K)
      exact wp_nil (hK _ rfl)
    · subst hp
      refine hK _ ?_
      have hc := comp_ix 3 ce1__law_reader [.fr (.str t), .fr (.lst (ns.map D.str)), .fr (.lst (.str w :: rest.map D.str)), .no] ns rest (by simp) (fun x hx => by unfold ce1__law_reader; (simp (disch := first | assumption | omega) [wpX_ite, List.getElem?_cons_zero, e_modP, e_divP, e_mulR, e_mulL, e_powI, e_addS, e_eqI, e_neI, isTy, index_names x ns hx])) hall hr
      have h1l : 1 ≤ sizeLine := by omega
      have hadd : fAdd (.own [.str w]) (.own (rest.map fun x => .int (ixOf x ns))) = some (.own (.str w :: rest.map fun x => .int (ixOf x ns))) := by
        show (if [D.str w].length + (rest.map fun x => D.int (ixOf x ns)).length ≤ sizeLine then some (Sl.own ([D.str w] ++ rest.map fun x => D.int (ixOf x ns))) else none) = _
        rw [if_pos (by simp; omega)]; rfl
      refine wp_seq fun K hK => ?_
      (simp (disch := first | assumption | omega) [wpX_ite, List.getElem?_cons_zero, e_modP, e_divP, e_mulR, e_mulL, e_powI, e_addS, e_eqI, e_neI, cut_tail, hc, h1l, hadd])
      exact hR
  · exact absurd ⟨j, hj, hwj⟩ h0
theorem reader_no (h : ¬ wordsOk w rest ns) : g__law_reader [.fr (.str t), .fr (.lst (ns.map D.str))] = ok (.fr .non) := by
  have hb := line_big
  unfold g__law_reader
  refine wp_ok fun N R E hR => ?_
  unfold ex__law_reader
  rw [show startD 4 [.fr (.str t), .fr (.lst (ns.map D.str))] = [.fr (.str t), .fr (.lst (ns.map D.str)), .no, .no] from rfl]
  have ht2 : t.length ≤ 1000000 := by omega
  (refine wp_seq fun K hK => ?_; simp (disch := first | assumption | omega) [wpX_ite, List.getElem?_cons_zero, e_modP, e_divP, e_mulR, e_mulL, e_powI, e_addS, e_eqI, e_neI, isTy, sp_len, ht2, hw]; refine hK _ ?_; clear hK K)
  (refine wp_seq fun K hK => ?_; simp (disch := first | assumption | omega) [wpX_ite, List.getElem?_cons_zero, e_modP, e_divP, e_mulR, e_mulL, e_powI, e_addS, e_eqI, e_neI]; refine hK _ ?_; clear hK K)
  rcases tab_len w with ⟨i, hi, e, _, _, h1, h2⟩ | ⟨h0, _, h1⟩
  · have hml := marks_len i hi
    have hms : (marksW.getD i "").length ≤ sizeLine := by omega
    have hno : rest.length = (marksW.getD i "").length → ¬ ∀ x ∈ rest, ns.contains x = true := fun a b => h ⟨⟨i, hi, e, a⟩, b⟩
    generalize marksW.getD i "" = m at *
    have hsi := said_in w
    rw [h2] at hsi
    refine wp_seq fun K hK => wp_if (c := decide ¬ (((rest.length : Nat) : Int) = (m.length : Nat))) (by (simp (disch := first | assumption | omega) [wpX_ite, List.getElem?_cons_zero, e_modP, e_divP, e_mulR, e_mulL, e_powI, e_addS, e_eqI, e_neI, said_ok, hsi, h1, hms])) (fun hc => ?_) (fun hc => hK _ ?_)
    · refine wp_seq fun K hK => ?_
      (simp (disch := first | assumption | omega) [wpX_ite, List.getElem?_cons_zero, e_modP, e_divP, e_mulR, e_mulL, e_powI, e_addS, e_eqI, e_neI])
      exact hR
    · have hno := hno (by have := of_decide_eq_false hc; omega)
      refine wp_seq fun K hK => ?_
      refine wp_for (fun j δ => δ = [.fr (.str t), .fr (.lst (ns.map D.str)), .fr (.lst (.str w :: rest.map D.str)), .no] ∧ ∀ i x, i < j → rest[i]? = some x → ns.contains x = true) (ds := rest.map D.str) (by (simp (disch := first | assumption | omega) [wpX_ite, List.getElem?_cons_zero, e_modP, e_divP, e_mulR, e_mulL, e_powI, e_addS, e_eqI, e_neI, cut_tail])) ⟨rfl, fun i x hi => by omega⟩ (fun j d δ hd hp => ?_) (fun δ hp => ?_)
      · obtain ⟨rfl, hp⟩ := hp
        rw [List.getElem?_map] at hd
        obtain ⟨x, hx, rfl⟩ := Option.map_eq_some_iff.mp hd
        refine ⟨by simp, fun K hK => ?_⟩
        unfold lb1__law_reader
        cases hxx : ns.contains x with
        | true =>
          refine wp_seq fun K2 hK2 => wp_if (c := false) (by (simp (disch := first | assumption | omega) [wpX_ite, List.getElem?_cons_zero, e_modP, e_divP, e_mulR, e_mulL, e_powI, e_addS, e_eqI, e_neI, in_y x ns hxx])) (fun h => by cases h) (fun _ => hK2 _ ?_)
          (refine wp_seq fun K hK => ?_; simp (disch := first | assumption | omega) [wpX_ite, List.getElem?_cons_zero, e_modP, e_divP, e_mulR, e_mulL, e_powI, e_addS, e_eqI, e_neI]; refine hK _ ?_; clear hK K)
          refine wp_nil (hK _ ⟨rfl, fun i y hi hy => ?_⟩)
          by_cases hij : i = j
          · subst hij; rw [hx] at hy; cases hy; exact hxx
          · exact hp i y (by omega) hy
        | false =>
          refine wp_seq fun K2 hK2 => wp_if (c := true) (by (simp (disch := first | assumption | omega) [wpX_ite, List.getElem?_cons_zero, e_modP, e_divP, e_mulR, e_mulL, e_powI, e_addS, e_eqI, e_neI, in_n x ns hxx])) (fun _ => ?_) (fun h => by cases h)
          refine wp_seq fun K hK => ?_
          (simp (disch := first | assumption | omega) [wpX_ite, List.getElem?_cons_zero, e_modP, e_divP, e_mulR, e_mulL, e_powI, e_addS, e_eqI, e_neI])
          exact hR
      · exfalso
        refine hno fun x hx => ?_
        obtain ⟨i, hi⟩ := List.mem_iff_getElem?.mp hx
        exact hp.2 i x (by rw [List.length_map]; exact (List.getElem?_eq_some_iff.mp hi).1) hi
  · have hsi := said_in w
    rw [h1] at hsi
    refine wp_seq fun K hK => wp_if (c := true) (by (simp (disch := first | assumption | omega) [wpX_ite, List.getElem?_cons_zero, e_modP, e_divP, e_mulR, e_mulL, e_powI, e_addS, e_eqI, e_neI, said_ok, hsi])) (fun hc => ?_) (fun hc => by cases hc)
    refine wp_seq fun K hK => ?_
    (simp (disch := first | assumption | omega) [wpX_ite, List.getElem?_cons_zero, e_modP, e_divP, e_mulR, e_mulL, e_powI, e_addS, e_eqI, e_neI])
    exact hR
end
end TT.K82
end
section
set_option maxRecDepth 100000
namespace TT.K82
open PySem PySem.Spec PyProof.Rows L2 TT
theorem join_strOk (sep : Str) (hs : PyData.strOk sep = true) (ss : List Str) (h : ∀ s ∈ ss, PyData.strOk s = true) : PyData.strOk (Txt.join sep ss) = true := by
  have key : ∀ (l : List Str) (acc : Array Nat), acc.all (fun c => decide (c < 0x110000)) = true → (∀ s ∈ l, PyData.strOk s = true) → (l.foldl (fun acc p => acc ++ sep.cps ++ p.cps) acc).all (fun c => decide (c < 0x110000)) = true := fun l => by
    induction l with
    | nil => intro acc h _; exact h
    | cons x l ih =>
      intro acc h1 h2
      refine ih _ ?_ fun s hs => h2 s (List.mem_cons_of_mem _ hs)
      have a := h2 x List.mem_cons_self
      unfold PyData.strOk at a hs
      rw [Array.all_append, Array.all_append, h1, hs, a]; rfl
  show ((ss.drop 1).foldl (fun acc p => acc ++ sep.cps ++ p.cps) (ss.headD Str.empty).cps).all _ = true
  cases ss with
  | nil => exact key [] _ (by simp [Str.empty]) fun s hs => by cases hs
  | cons x ss => exact key ss _ (h x List.mem_cons_self) fun s hs => h s (List.mem_cons_of_mem _ hs)
theorem eq_tup {ds : List D} (h : ds.all eqD = true) : fNe (.fr (.tup ds)) (.fr (.tup ds)) = some (.fr (.bl false)) := by
  obtain ⟨ps, e1, e2, e3, e4, e5⟩ := toP_eqD h
  have a : slP (.fr (.tup ds)) = some (.tuple ps) := by show (toPs ds).map PyData.tuple = _; rw [e1]; rfl
  have hs : SeqAt.shaped (.tuple ps) = true := by
    unfold SeqAt.shaped
    simp [PyData.canLay0, PyData.depth, e2, e3]
  unfold fNe eqP
  rw [a]
  simp [hs, PyData.eqv, e5]
theorem eq_lst {ds : List D} (h : ds.all eqD = true) : fEq (.fr (.lst ds)) (.fr (.lst ds)) = some (.fr (.bl true)) := by
  obtain ⟨ps, e1, e2, e3, e4, e5⟩ := toP_eqD h
  have a : slP (.fr (.lst ds)) = some (.list ps) := by show (toPs ds).map PyData.list = _; rw [e1]; rfl
  unfold fEq eqP
  rw [a]
  simp [shaped_list e2 e3, PyData.eqv, e5]
theorem said_ok2 : ∀ j : Fin 16, PyData.strOk (saidW.getD j.1 "") = true ∧ 1 ≤ (saidW.getD j.1 "").length := by decide +kernel
theorem marks_pos : ∀ j : Fin 16, 1 ≤ (marksW.getD j.1 "").length := by decide +kernel
theorem good_ok (w : Str) (is : List Int) (hw : PyData.strOk w = true) (hl : is.length ≤ 4000) : g__law_good [.fr (.tup (.str w :: is.map D.int)), .fr (.tup (.str w :: is.map D.int))] = ok (.fr (.bl true)) := by
  have hb := line_big
  have he : (D.str w :: is.map D.int).all eqD = true := by
    rw [List.all_cons, List.all_map]
    simp [eqD, hw]
  have hne := eq_tup he
  unfold g__law_good
  refine wp_ok fun N R E hR => ?_
  unfold ex__law_good
  rw [show startD 3 [.fr (.tup (.str w :: is.map D.int)), .fr (.tup (.str w :: is.map D.int))] = [.fr (.tup (.str w :: is.map D.int)), .fr (.tup (.str w :: is.map D.int)), .no] from rfl]
  refine wp_seq fun K hK => wp_if (c := false) (by (simp (disch := first | assumption | omega) [wpX_ite, List.getElem?_cons_zero, e_modP, e_divP, e_mulR, e_mulL, e_powI, e_addS, e_eqI, e_neI, hne])) (fun h => by cases h) (fun _ => hK _ ?_)
  have hc := compL_eq (i := 2) (cond := cc1__law_good) (elt := sF ce1__law_good) (δ := [.fr (.tup (.str w :: is.map D.int)), .fr (.tup (.str w :: is.map D.int)), .no]) (ds := is.map D.int) (acc := []) (fun d => false) id (by simp) (fun d hd => by
    obtain ⟨i, hi, rfl⟩ := List.mem_map.mp hd
    unfold cc1__law_good
    (simp (disch := first | assumption | omega) [wpX_ite, List.getElem?_cons_zero, e_modP, e_divP, e_mulR, e_mulL, e_powI, e_addS, e_eqI, e_neI])) (fun d hd h => by cases h) (by simp; omega)
  have hf : (is.map D.int).filter (fun _ => false) = [] := by simp
  rw [hf] at hc
  refine wp_seq fun K hK => ?_
  (simp (disch := first | assumption | omega) [wpX_ite, List.getElem?_cons_zero, e_modP, e_divP, e_mulR, e_mulL, e_powI, e_addS, e_eqI, e_neI, cut_tail, hc])
  exact hR
theorem alone16 : g__law_alone [.fr (.exc 16 [.int 0])] = ok (.fr (.bl true)) := by rfl
theorem sub1616 : sub 16 16 = true := by rfl
def nmS (ns : List Str) (k : Nat) : Str := ns.getD k ""
theorem nm_at (ns : List Str) (k : Nat) (h : k < ns.length) : fIdx (.fr (.lst (ns.map D.str))) (.fr (.int (k : Nat))) = some (.fr (.str (nmS ns k))) := by
  show (atI (ns.map D.str) (k : Nat)).map (fun d => Sl.fr d) = _
  rw [atI_nat, List.getElem?_map, List.getElem?_eq_getElem h]
  unfold nmS
  rw [List.getD_eq_getElem?_getD, List.getElem?_eq_getElem h]; rfl
theorem nm_at2 (ns : List Str) (k : Nat) (h : k < ns.length) : atI (ns.map D.str) (k : Nat) = some (.str (nmS ns k)) := by
  rw [atI_nat, List.getElem?_map, List.getElem?_eq_getElem h]
  unfold nmS
  rw [List.getD_eq_getElem?_getD, List.getElem?_eq_getElem h]; rfl
theorem comp_nm (i : Nat) (elt : Ev Sl) (δ : Dl) (ns : List Str) (ks : List Nat) (hi : i < δ.length) (he : ∀ k : Nat, k < ns.length → sF elt (δ.set i (.fr (.int (k : Nat)))) = ok (.str (nmS ns k))) (h : ∀ k ∈ ks, k < ns.length) (hl : ks.length ≤ 4000) :
    compL (.one i) sYes (sF elt) (ks.map fun k : Nat => D.int (k : Nat)) δ [] = ok ((ks.map (nmS ns)).map D.str) := by
  have hb := line_big
  have hc := compL_eq (i := i) (cond := sYes) (elt := sF elt) (δ := δ) (ds := ks.map fun k : Nat => D.int (k : Nat)) (acc := []) (fun d => true) (fun d => match d with | .int x => .str (nmS ns x.toNat) | d => d) hi (fun d hd => rfl) (fun d hd _ => by
    obtain ⟨x, hx, rfl⟩ := List.mem_map.mp hd
    exact he x (h x hx)) (by simp; omega)
  have hf : ∀ l : List D, l.filter (fun _ => true) = l := fun l => by simp
  rw [hc, hf]
  simp [Function.comp_def]
theorem nm_good {ns : List Str} (hn : NamesOk ns) {k : Nat} (h : k < ns.length) : (nmS ns k).length ≤ 8 ∧ PyData.strOk (nmS ns k) = true := by
  have hm : nmS ns k ∈ ns := by
    unfold nmS
    rw [List.getD_eq_getElem?_getD, List.getElem?_eq_getElem h]
    exact List.getElem_mem _
  exact ⟨name_len (hn.all _ hm).1, (hn.all _ hm).2⟩
/-- the text of a saying -/
def textV (ns : List Str) (j : Nat) (ks : List Nat) : Str := Txt.join " " (saidW.getD j "" :: ks.map (nmS ns))
structure SayOk (ns : List Str) (j : Nat) (ks : List Nat) : Prop where
  b : j < 16
  len : ks.length = (marksW.getD j "").length
  lt : ∀ k ∈ ks, k < ns.length
section
variable {ns : List Str} {j : Nat} {ks : List Nat} (hn : NamesOk ns) (hs : SayOk ns j ks)
include hn hs
theorem text_sum : ((saidW.getD j "" :: ks.map (nmS ns)).map (·.length)).sum ≤ 59 ∧ (saidW.getD j "" :: ks.map (nmS ns)).length ≤ 7 := by
  have h1 := said_len j hs.b
  have h2 := marks_len j hs.b
  have h3 : ((ks.map (nmS ns)).map (·.length)).sum ≤ (ks.map (nmS ns)).length * 8 := sum_le fun s hm => by
    obtain ⟨k, hk, rfl⟩ := List.mem_map.mp hm
    exact (nm_good hn (hs.lt k hk)).1
  rw [List.length_map, hs.len] at h3
  have h4 : (ks.map (nmS ns)).length ≤ 6 := by rw [List.length_map, hs.len]; exact h2
  simp only [List.map_cons, List.sum_cons, List.length_cons]
  omega
theorem text_len : 1 ≤ (textV ns j ks).length ∧ (textV ns j ks).length ≤ 200 := by
  obtain ⟨h1, h2⟩ := text_sum hn hs
  have h3 := join_len (saidW.getD j "" :: ks.map (nmS ns))
  have h4 := size_glued " " (saidW.getD j "" :: ks.map (nmS ns))
  have h5 : 1 ≤ (saidW.getD j "").length := (said_ok2 ⟨j, hs.b⟩).2
  unfold textV
  refine ⟨?_, by omega⟩
  show 1 ≤ (Builtin.Str.glued " " (saidW.getD j "" :: ks.map (nmS ns))).length
  simp only [List.map_cons, List.sum_cons] at h4
  omega
theorem text_strOk : PyData.strOk (textV ns j ks) = true := by
  refine join_strOk " " (by decide +kernel) _ fun s hm => ?_
  rcases List.mem_cons.mp hm with rfl | hm
  · exact (said_ok2 ⟨j, hs.b⟩).1
  · obtain ⟨k, hk, rfl⟩ := List.mem_map.mp hm
    exact (nm_good hn (hs.lt k hk)).2
theorem text_join : mJoin (.fr (.str " ")) [.own (.str (saidW.getD j "") :: (ks.map (nmS ns)).map D.str)] = some (.fr (.str (textV ns j ks))) := by
  obtain ⟨h1, h2⟩ := text_sum hn hs
  exact join_ok (saidW.getD j "" :: ks.map (nmS ns)) (by omega) (by omega)
theorem text_add : fAdd (.own [.str (saidW.getD j "")]) (.own ((ks.map (nmS ns)).map D.str)) = some (.own (.str (saidW.getD j "") :: (ks.map (nmS ns)).map D.str)) := by
  have hb := line_big
  have h2 := marks_len j hs.b
  have h3 := hs.len
  show (if [D.str (saidW.getD j "")].length + ((ks.map (nmS ns)).map D.str).length ≤ sizeLine then some (Sl.own ([D.str (saidW.getD j "")] ++ (ks.map (nmS ns)).map D.str)) else none) = _
  rw [if_pos (by simp; omega)]; rfl
theorem shown_text (hl : ns.length ≤ 24) : g_shown_saying [.fr (.tup (.str (saidW.getD j "") :: ks.map fun k : Nat => D.int (k : Nat))), .fr (.lst (ns.map D.str))] = ok (.fr (.str (textV ns j ks))) := by
  have hb := line_big
  have hml := marks_len j hs.b
  have hlen := hs.len
  have hfb : formB (.tup (.str (saidW.getD j "") :: ks.map fun k : Nat => D.int (k : Nat))) = true := by
    rw [formB_word j hs.b]
    simp [hlen, isIntD]
  have his := is_ok (.tup (.str (saidW.getD j "") :: ks.map fun k : Nat => D.int (k : Nat))) (by simp [niceB, plainD]) (by simp [lenD]; omega)
  rw [hfb] at his
  have hlook := look_ok (ns.map D.str) hn.fine (by simp; omega)
  rw [hn.good, if_pos rfl] at hlook
  have hj := text_join hn hs
  have ha := text_add hn hs
  unfold g_shown_saying
  refine wp_ok fun N R E hR => ?_
  generalize saidW.getD j "" = w at *
  unfold ex_shown_saying
  rw [show startD 3 [.fr (.tup (.str w :: ks.map fun k : Nat => D.int (k : Nat))), .fr (.lst (ns.map D.str))] = [.fr (.tup (.str w :: ks.map fun k : Nat => D.int (k : Nat))), .fr (.lst (ns.map D.str)), .no] from rfl]
  refine wp_seq fun K hK => wp_if (c := false) (by (simp (disch := first | assumption | omega) [wpX_ite, List.getElem?_cons_zero, e_modP, e_divP, e_mulR, e_mulL, e_powI, e_addS, e_eqI, e_neI, his])) (fun h => by cases h) (fun _ => hK _ ?_)
  (refine wp_seq fun K hK => ?_; simp (disch := first | assumption | omega) [wpX_ite, List.getElem?_cons_zero, e_modP, e_divP, e_mulR, e_mulL, e_powI, e_addS, e_eqI, e_neI, hlook]; refine hK _ ?_; clear hK K)
  refine wp_seq fun K hK => ?_
  refine wp_for (fun j δ => δ = [.fr (.tup (.str w :: ks.map fun k : Nat => D.int (k : Nat))), .fr (.lst (ns.map D.str)), .no]) (ds := ks.map fun k : Nat => D.int (k : Nat)) (by (simp (disch := first | assumption | omega) [wpX_ite, List.getElem?_cons_zero, e_modP, e_divP, e_mulR, e_mulL, e_powI, e_addS, e_eqI, e_neI, cut_tail])) rfl (fun j d δ hd hp => ?_) (fun δ hp => ?_)
  · subst hp
    obtain ⟨x, hx, rfl⟩ := List.mem_map.mp (List.mem_of_getElem? hd)
    have hlt := hs.lt x hx
    have h1 : ¬ ((x : Nat) : Int) < 0 := by omega
    have h2 : ¬ ns.length ≤ x := by omega
    refine ⟨by simp, fun K hK => ?_⟩
    unfold lb1_shown_saying
    refine wp_seq fun K2 hK2 => wp_if (c := false) (by (simp (disch := first | assumption | omega) [wpX_ite, List.getElem?_cons_zero, e_modP, e_divP, e_mulR, e_mulL, e_powI, e_addS, e_eqI, e_neI, h1, h2])) (fun h => by cases h) (fun _ => hK2 _ ?_)
    (refine wp_seq fun K hK => ?_; simp (disch := first | assumption | omega) [wpX_ite, List.getElem?_cons_zero, e_modP, e_divP, e_mulR, e_mulL, e_powI, e_addS, e_eqI, e_neI]; refine hK _ ?_; clear hK K)
    exact wp_nil (hK _ rfl)
  · subst hp
    refine hK _ ?_
    have hc := comp_nm 2 ce1_shown_saying [.fr (.tup (.str w :: ks.map fun k : Nat => D.int (k : Nat))), .fr (.lst (ns.map D.str)), .no] ns ks (by simp) (fun k hk => by
      unfold ce1_shown_saying
      (simp (disch := first | assumption | omega) [wpX_ite, List.getElem?_cons_zero, e_modP, e_divP, e_mulR, e_mulL, e_powI, e_addS, e_eqI, e_neI, nm_at2 ns k hk])) hs.lt (by omega)
    have h1l : 1 ≤ sizeLine := by omega
    refine wp_seq fun K hK => ?_
    generalize (ks.map (nmS ns)).map D.str = zs at *
    (simp (disch := first | assumption | omega) [wpX_ite, List.getElem?_cons_zero, e_modP, e_divP, e_mulR, e_mulL, e_powI, e_addS, e_eqI, e_neI, cut_tail, hc, h1l, ha, isTy, hj])
    exact hR
end
end TT.K82
end
section
set_option maxRecDepth 100000
namespace TT.K82
open PySem PySem.Spec PyProof.Rows L2 TT
abbrev st82 (ns : List Int) (r : Int) (nm : List Str) (k w t : Sl) : Dl := [.bor (ns.map D.int), .fr (.int r), .fr (.lst (nm.map D.str)), .fr (.lst (nm.map D.str)), k, w, .no, t, .no, .no, .no, .no, .no, .no]
theorem marks_loop (ns : List Int) (r : Int) (nm : List Str) (j : Nat) (k : D) (hj : j < 16) (h1 : 1 ≤ nm.length) (h2 : nm.length ≤ 24) (N : Dl → Prop) (R : Sl → Prop) (E : Dl → Nat → List D → Prop)
    (h : ∀ (r2 : Int) (ks : List Nat), SayOk nm j ks → N (st82 ns r2 nm (.fr k) (.own (.str (saidW.getD j "") :: ks.map fun k : Nat => D.int (k : Nat))) .no)) :
    wpX (xFor (srcF (sCall g__law_marks [.fr] (sCons (sB fIdx (sVar 5) (sC (.int 0))) (sNil)))) (.one 6) lb1_law (st82 ns r nm (.fr k) (.own [.str (saidW.getD j "")]) .no)) N R E := by
  have hb := line_big
  have hm := marks_ok j hj
  have hml := marks_len j hj
  have hlen : (signs (marksW.getD j "")).length = (marksW.getD j "").length := by unfold signs; rw [List.length_map, Array.length_toList]; rfl
  have hS : ∀ ks, ks.length = (marksW.getD j "").length → (∀ k ∈ ks, k < nm.length) → SayOk nm j ks := fun ks a b => ⟨hj, a, b⟩
  generalize saidW.getD j "" = w at *
  generalize marksW.getD j "" = m at *
  refine wp_for (fun i δ => ∃ (r2 : Int) (ks : List Nat), ks.length = i ∧ (∀ k ∈ ks, k < nm.length) ∧ δ = st82 ns r2 nm (.fr k) (.own (.str w :: ks.map fun k : Nat => D.int (k : Nat))) .no) (ds := signs m) (by (simp (disch := first | assumption | omega) [wpX_ite, List.getElem?_cons_zero, e_modP, e_divP, e_mulR, e_mulL, e_powI, e_addS, e_eqI, e_neI, hm])) ⟨r, [], rfl, by simp, rfl⟩ (fun i d δ hd hp => ?_) (fun δ hp => ?_)
  · obtain ⟨r2, ks, hk, hlt, rfl⟩ := hp
    refine ⟨by simp, fun K hK => ?_⟩
    have hi : i < m.length := by rw [← hlen]; exact (List.getElem?_eq_some_iff.mp hd).1
    have hp : (0 : Int) < (nm.length : Nat) := by omega
    obtain ⟨n, hn, hn2⟩ : ∃ n : Nat, r2 % ((nm.length : Nat) : Int) = (n : Int) ∧ n < nm.length := by
      have q0 := Int.emod_nonneg r2 (b := ((nm.length : Nat) : Int)) (by omega)
      have q1 := Int.emod_lt_of_pos r2 hp
      exact ⟨(r2 % ((nm.length : Nat) : Int)).toNat, by omega, by omega⟩
    have happ : mApp (.str w :: ks.map fun k : Nat => D.int (k : Nat)) [.int (n : Nat)] = some (.str w :: (ks ++ [n]).map fun k : Nat => D.int (k : Nat)) := by
      show (if (D.str w :: ks.map fun k : Nat => D.int (k : Nat)).length < sizeLine then some ((D.str w :: ks.map fun k : Nat => D.int (k : Nat)) ++ [.int (n : Nat)]) else none) = _
      rw [if_pos (by simp; omega)]
      simp
    unfold lb1_law
    generalize hws : (D.str w :: (ks ++ [n]).map fun k : Nat => D.int (k : Nat)) = ws at *
    (refine wp_seq fun K hK => ?_; simp (disch := first | assumption | omega) [wpX_ite, List.getElem?_cons_zero, e_modP, e_divP, e_mulR, e_mulL, e_powI, e_addS, e_eqI, e_neI, hn, happ]; refine hK _ ?_; clear hK K)
    (refine wp_seq fun K hK => ?_; simp (disch := first | assumption | omega) [wpX_ite, List.getElem?_cons_zero, e_modP, e_divP, e_mulR, e_mulL, e_powI, e_addS, e_eqI, e_neI]; refine hK _ ?_; clear hK K)
    (refine wp_seq fun K hK => ?_; simp (disch := first | assumption | omega) [wpX_ite, List.getElem?_cons_zero, e_modP, e_divP, e_mulR, e_mulL, e_powI, e_addS, e_eqI, e_neI]; refine hK _ ?_; clear hK K)
    (refine wp_seq fun K hK => ?_; simp (disch := first | assumption | omega) [wpX_ite, List.getElem?_cons_zero, e_modP, e_divP, e_mulR, e_mulL, e_powI, e_addS, e_eqI, e_neI]; refine hK _ ?_; clear hK K)
    refine wp_nil (hK _ ?_)
    refine ⟨r2 / ((nm.length : Nat) : Int), ks ++ [n], by simp; omega, fun k hk => ?_, ?_⟩
    · rcases List.mem_append.mp hk with h | h
      · exact hlt k h
      · rcases List.mem_singleton.mp h with rfl; exact hn2
    · rw [hws]
  · obtain ⟨r2, ks, hk, hlt, rfl⟩ := hp
    exact h r2 ks (hS ks (by omega) hlt)
theorem turn_ok (ns : List Int) (r : Int) (nm : List Str) (k : Nat) (hl : ns.length ≤ 63) (hk : k < ns.length) (hn : NamesOk nm) (h1 : 1 ≤ nm.length) (h2 : nm.length ≤ 24) (N : Dl → Prop) (R : Sl → Prop) (E : Dl → Nat → List D → Prop)
    (h : ∀ r2 : Int, N (st82 ns r2 nm .no .no .no)) : wpX (lb2_law (st82 ns r nm (.fr (.int (k : Nat))) .no .no)) N R E := by
  have hb := line_big
  unfold lb2_law
  have h1l : 1 ≤ sizeLine := by omega
  (refine wp_seq fun K hK => ?_; simp (disch := first | assumption | omega) [wpX_ite, List.getElem?_cons_zero, e_modP, e_divP, e_mulR, e_mulL, e_powI, e_addS, e_eqI, e_neI, rest_ok ns k hl]; refine hK _ ?_; clear hK K)
  (refine wp_seq fun K hK => ?_; simp (disch := first | assumption | omega) [wpX_ite, List.getElem?_cons_zero, e_modP, e_divP, e_mulR, e_mulL, e_powI, e_addS, e_eqI, e_neI]; refine hK _ ?_; clear hK K)
  generalize restV ns k = rv
  obtain ⟨j, hj, hj2⟩ : ∃ n : Nat, rv % 16 = (n : Int) ∧ n < 16 := ⟨(rv % 16).toNat, by omega, by omega⟩
  have hat : atI (saidW.map D.str) ((j : Nat) : Int) = some (.str (saidW.getD j "")) := by
    have hl : saidW.length = 16 := rfl
    rw [atI_nat, List.getElem?_map, List.getElem?_eq_getElem (by omega), List.getD_eq_getElem?_getD, List.getElem?_eq_getElem (by omega)]; rfl
  (refine wp_seq fun K hK => ?_; simp (disch := first | assumption | omega) [wpX_ite, List.getElem?_cons_zero, e_modP, e_divP, e_mulR, e_mulL, e_powI, e_addS, e_eqI, e_neI, said_ok, hj, hat, h1l]; refine hK _ ?_; clear hK K)
  (refine wp_seq fun K hK => ?_; simp (disch := first | assumption | omega) [wpX_ite, List.getElem?_cons_zero, e_modP, e_divP, e_mulR, e_mulL, e_powI, e_addS, e_eqI, e_neI]; refine hK _ ?_; clear hK K)
  (refine wp_seq fun K hK => ?_; simp (disch := first | assumption | omega) [wpX_ite, List.getElem?_cons_zero, e_modP, e_divP, e_mulR, e_mulL, e_powI, e_addS, e_eqI, e_neI]; refine hK _ ?_; clear hK K)
  refine wp_seq fun K hK => marks_loop ns (rv / 16) nm j (.int (k : Nat)) hj2 h1 h2 K R E fun r2 ks hs => hK _ ?_
  clear hK K
  have hlen := hs.len
  have hml := marks_len j hj2
  have tj := text_join hn hs
  have ta := text_add hn hs
  have tsh := shown_text hn hs h2
  have ⟨tl1, tl2⟩ := text_len hn hs
  have tok := text_strOk hn hs
  have hc := comp_nm 13 ce1_law (st82 ns r2 nm (.fr (.int (k : Nat))) (.own (.str (saidW.getD j "") :: ks.map fun k : Nat => D.int (k : Nat))) .no) nm ks (by simp) (fun k hk => by
      unfold ce1_law
      (simp (disch := first | assumption | omega) [wpX_ite, List.getElem?_cons_zero, e_modP, e_divP, e_mulR, e_mulL, e_powI, e_addS, e_eqI, e_neI, nm_at2 nm k hk])) hs.lt (by omega)
  generalize textV nm j ks = t at *
  generalize saidW.getD j "" = w at *
  generalize (ks.map (nmS nm)).map D.str = zs at *
  generalize (ks.map fun k : Nat => D.int (k : Nat)) = is at *
  (refine wp_seq fun K hK => ?_; simp (disch := first | assumption | omega) [wpX_ite, List.getElem?_cons_zero, e_modP, e_divP, e_mulR, e_mulL, e_powI, e_addS, e_eqI, e_neI, cut_tail, hc, h1l, ta, isTy, tj]; refine hK _ ?_; clear hK K)
  (refine wp_seq fun K hK => ?_; simp (disch := first | assumption | omega) [wpX_ite, List.getElem?_cons_zero, e_modP, e_divP, e_mulR, e_mulL, e_powI, e_addS, e_eqI, e_neI]; refine hK _ ?_; clear hK K)
  (refine wp_seq fun K hK => ?_; simp (disch := first | assumption | omega) [wpX_ite, List.getElem?_cons_zero, e_modP, e_divP, e_mulR, e_mulL, e_powI, e_addS, e_eqI, e_neI, tsh]; refine hK _ ?_; clear hK K)
  (refine wp_seq fun K hK => ?_; simp (disch := first | assumption | omega) [wpX_ite, List.getElem?_cons_zero, e_modP, e_divP, e_mulR, e_mulL, e_powI, e_addS, e_eqI, e_neI]; refine hK _ ?_; clear hK K)
  have hne : fNe (.fr (.str t)) (.fr (.str t)) = some (.fr (.bl false)) := by rw [e_neS tok tok]; simp
  refine wp_seq fun K hK => wp_if (c := false) (by (simp (disch := first | assumption | omega) [wpX_ite, List.getElem?_cons_zero, e_modP, e_divP, e_mulR, e_mulL, e_powI, e_addS, e_eqI, e_neI, hne])) (fun h => by cases h) (fun _ => hK _ ?_)
  clear hK K
  have hcell : atI (ns.map D.int) (k : Nat) = some (.int (ns.getD k 0)) := at_ints ns k hk
  have hmix := mixed_ok (ns.getD k 0) ((k : Int) + 40)
  have hmn := mixV_nn (ns.getD k 0) ((k : Int) + 40)
  generalize mixV (ns.getD k 0) ((k : Int) + 40) = mx at *
  generalize ns.getD k 0 = cell at *
  obtain ⟨t2, hbent, ht2⟩ := bent_ok t mx nm hmn tl1 tl2 h2 fun s hs => name_len (hn.all s hs).1
  (refine wp_seq fun K hK => ?_; simp (disch := first | assumption | omega) [wpX_ite, List.getElem?_cons_zero, e_modP, e_divP, e_mulR, e_mulL, e_powI, e_addS, e_eqI, e_neI, hcell, hmix, hbent]; refine hK _ ?_; clear hK K)
  (refine wp_seq fun K hK => ?_; simp (disch := first | assumption | omega) [wpX_ite, List.getElem?_cons_zero, e_modP, e_divP, e_mulR, e_mulL, e_powI, e_addS, e_eqI, e_neI]; refine hK _ ?_; clear hK K)
  obtain ⟨w2, rest, hsp⟩ : ∃ w rest, Txt.split t2 " " = w :: rest := by
    have := split_pos t2 " "
    cases q : Txt.split t2 " " with
    | nil => rw [q] at this; simp at this
    | cons w r => exact ⟨w, r, rfl⟩
  have hs2 := split_size t2 " "
  rw [hsp, sp_len] at hs2
  have hrl : rest.length ≤ 4000 := by simp only [List.length_cons] at hs2; omega
  by_cases hw : wordsOk w2 rest nm
  · have hrd := reader_yes t2 w2 rest nm hsp (by omega) hrl hw
    have hre := read_yes t2 w2 rest nm hsp (by omega) hrl hw
    have hgood := good_ok w2 (rest.map fun x => ixOf x nm) (by
      obtain ⟨⟨i, hi, e, _⟩, _⟩ := hw
      rw [e]; exact (said_ok2 ⟨i, hi⟩).1) (by simp; omega)
    rw [show (rest.map fun x => ixOf x nm).map D.int = rest.map fun x => .int (ixOf x nm) by simp [Function.comp_def]] at hgood
    generalize (rest.map fun x => D.int (ixOf x nm)) = is2 at *
    (refine wp_seq fun K hK => ?_; simp (disch := first | assumption | omega) [wpX_ite, List.getElem?_cons_zero, e_modP, e_divP, e_mulR, e_mulL, e_powI, e_addS, e_eqI, e_neI, hrd]; refine hK _ ?_; clear hK K)
    (refine wp_seq fun K hK => ?_; simp (disch := first | assumption | omega) [wpX_ite, List.getElem?_cons_zero, e_modP, e_divP, e_mulR, e_mulL, e_powI, e_addS, e_eqI, e_neI]; refine hK _ ?_; clear hK K)
    (refine wp_seq fun K hK => ?_; simp (disch := first | assumption | omega) [wpX_ite, List.getElem?_cons_zero, e_modP, e_divP, e_mulR, e_mulL, e_powI, e_addS, e_eqI, e_neI]; refine hK _ ?_; clear hK K)
    (refine wp_seq fun K hK => ?_; simp (disch := first | assumption | omega) [wpX_ite, List.getElem?_cons_zero, e_modP, e_divP, e_mulR, e_mulL, e_powI, e_addS, e_eqI, e_neI]; refine hK _ ?_; clear hK K)
    (refine wp_seq fun K hK => ?_; simp (disch := first | assumption | omega) [wpX_ite, List.getElem?_cons_zero, e_modP, e_divP, e_mulR, e_mulL, e_powI, e_addS, e_eqI, e_neI, tb1_law, hre]; refine hK _ ?_; clear hK K)
    refine wp_seq fun K hK => wp_if (c := false) (by (simp (disch := first | assumption | omega) [wpX_ite, List.getElem?_cons_zero, e_modP, e_divP, e_mulR, e_mulL, e_powI, e_addS, e_eqI, e_neI])) (fun h => by cases h) (fun _ => hK _ ?_)
    clear hK K
    refine wp_seq fun K hK => wp_if (c := false) (by (simp (disch := first | assumption | omega) [wpX_ite, List.getElem?_cons_zero, e_modP, e_divP, e_mulR, e_mulL, e_powI, e_addS, e_eqI, e_neI, hgood])) (fun h => by cases h) (fun _ => hK _ ?_)
    clear hK K
    (refine wp_seq fun K hK => ?_; simp (disch := first | assumption | omega) [wpX_ite, List.getElem?_cons_zero, e_modP, e_divP, e_mulR, e_mulL, e_powI, e_addS, e_eqI, e_neI]; refine hK _ ?_; clear hK K)
    exact wp_nil (h _)
  · have hrd := reader_no t2 w2 rest nm hsp (by omega) hrl hw
    have hre := read_no t2 w2 rest nm hsp (by omega) hrl hw
    have hcs : 16 ∈ cs_line := by decide
    (refine wp_seq fun K hK => ?_; simp (disch := first | assumption | omega) [wpX_ite, List.getElem?_cons_zero, e_modP, e_divP, e_mulR, e_mulL, e_powI, e_addS, e_eqI, e_neI, hrd]; refine hK _ ?_; clear hK K)
    (refine wp_seq fun K hK => ?_; simp (disch := first | assumption | omega) [wpX_ite, List.getElem?_cons_zero, e_modP, e_divP, e_mulR, e_mulL, e_powI, e_addS, e_eqI, e_neI]; refine hK _ ?_; clear hK K)
    (refine wp_seq fun K hK => ?_; simp (disch := first | assumption | omega) [wpX_ite, List.getElem?_cons_zero, e_modP, e_divP, e_mulR, e_mulL, e_powI, e_addS, e_eqI, e_neI]; refine hK _ ?_; clear hK K)
    (refine wp_seq fun K hK => ?_; simp (disch := first | assumption | omega) [wpX_ite, List.getElem?_cons_zero, e_modP, e_divP, e_mulR, e_mulL, e_powI, e_addS, e_eqI, e_neI]; refine hK _ ?_; clear hK K)
    (refine wp_seq fun K hK => ?_; simp (disch := first | assumption | omega) [wpX_ite, List.getElem?_cons_zero, e_modP, e_divP, e_mulR, e_mulL, e_powI, e_addS, e_eqI, e_neI, tb1_law, hre, sub1616]; refine hK _ ?_; clear hK K)
    refine wp_seq fun K hK => wp_if (c := false) (by (simp (disch := first | assumption | omega) [wpX_ite, List.getElem?_cons_zero, e_modP, e_divP, e_mulR, e_mulL, e_powI, e_addS, e_eqI, e_neI, alone16, hcs])) (fun h => by cases h) (fun _ => hK _ ?_)
    clear hK K
    refine wp_seq fun K hK => wp_if (c := false) (by (simp (disch := first | assumption | omega) [wpX_ite, List.getElem?_cons_zero, e_modP, e_divP, e_mulR, e_mulL, e_powI, e_addS, e_eqI, e_neI])) (fun h => by cases h) (fun _ => hK _ ?_)
    clear hK K
    (refine wp_seq fun K hK => ?_; simp (disch := first | assumption | omega) [wpX_ite, List.getElem?_cons_zero, e_modP, e_divP, e_mulR, e_mulL, e_powI, e_addS, e_eqI, e_neI]; refine hK _ ?_; clear hK K)
    exact wp_nil (h _)
theorem plain (ns : List Int) (hl : ns.length ≤ 63) : g_law [.bor (ns.map D.int)] = ok (.fr (.bl true)) := by
  have hb := line_big
  unfold g_law
  refine wp_ok fun N R E hR => ?_
  unfold ex_law
  rw [show startD 14 [.bor (ns.map D.int)] = [.bor (ns.map D.int), .no, .no, .no, .no, .no, .no, .no, .no, .no, .no, .no, .no, .no] from rfl]
  have r0 := rest_ok ns 0 hl
  have r1 := rest_ok ns 1 hl
  rw [Int.natCast_zero] at r0
  rw [show ((1 : Nat) : Int) = 1 from rfl] at r1
  (refine wp_seq fun K hK => ?_; simp (disch := first | assumption | omega) [wpX_ite, List.getElem?_cons_zero, e_modP, e_divP, e_mulR, e_mulL, e_powI, e_addS, e_eqI, e_neI, r0]; refine hK _ ?_; clear hK K)
  (refine wp_seq fun K hK => ?_; simp (disch := first | assumption | omega) [wpX_ite, List.getElem?_cons_zero, e_modP, e_divP, e_mulR, e_mulL, e_powI, e_addS, e_eqI, e_neI]; refine hK _ ?_; clear hK K)
  generalize restV ns 0 / 2 = rv
  obtain ⟨m, hm, hm2⟩ : ∃ m : Nat, 1 + rv % 24 = (m : Int) ∧ 1 ≤ m ∧ m ≤ 24 := ⟨(1 + rv % 24).toNat, by omega, by omega, by omega⟩
  obtain ⟨nm, hnm, hnl, hno⟩ := names_ok (restV ns 1) m hm2.2
  (refine wp_seq fun K hK => ?_; simp (disch := first | assumption | omega) [wpX_ite, List.getElem?_cons_zero, e_modP, e_divP, e_mulR, e_mulL, e_powI, e_addS, e_eqI, e_neI, r1, hm, hnm]; refine hK _ ?_; clear hK K)
  (refine wp_seq fun K hK => ?_; simp (disch := first | assumption | omega) [wpX_ite, List.getElem?_cons_zero, e_modP, e_divP, e_mulR, e_mulL, e_powI, e_addS, e_eqI, e_neI]; refine hK _ ?_; clear hK K)
  (refine wp_seq fun K hK => ?_; simp (disch := first | assumption | omega) [wpX_ite, List.getElem?_cons_zero, e_modP, e_divP, e_mulR, e_mulL, e_powI, e_addS, e_eqI, e_neI]; refine hK _ ?_; clear hK K)
  (refine wp_seq fun K hK => ?_; simp (disch := first | assumption | omega) [wpX_ite, List.getElem?_cons_zero, e_modP, e_divP, e_mulR, e_mulL, e_powI, e_addS, e_eqI, e_neI]; refine hK _ ?_; clear hK K)
  have hcut : (cutD (ns.map D.int) none (some 40)).length ≤ 40 ∧ (cutD (ns.map D.int) none (some 40)).length ≤ ns.length := by
    have hx := HT.sIx_le (ns.map D.int).length (ns.map D.int).length (Nat.le_refl _) (some 40)
    have hy : HT.sIx (ns.map D.int).length (ns.map D.int).length (some 40) ≤ 40 := by
      show (if (40 : Int) < 0 then ((40 : Int) + ((ns.map D.int).length : Int)).toNat else min (40 : Int).toNat (ns.map D.int).length) ≤ 40
      rw [if_neg (by decide)]; exact Nat.min_le_left _ _
    unfold cutD
    rw [List.length_take, List.length_drop]
    rw [List.length_map] at *
    omega
  generalize hcl : (cutD (ns.map D.int) none (some 40)).length = cl at *
  have hi2 : inR 2 = true := inR_nat 2 (by omega)
  have hi3 : inR ((cl : Nat) : Int) = true := inR_nat cl (by omega)
  refine wp_seq fun K hK => ?_
  refine wp_for (fun i δ => ∃ r : Int, δ = st82 ns r nm .no .no .no) (ds := (List.range (((cl : Nat) : Int) - 2).toNat).map fun k : Nat => D.int (2 + (k : Int))) (by (simp (disch := first | assumption | omega) [wpX_ite, List.getElem?_cons_zero, e_modP, e_divP, e_mulR, e_mulL, e_powI, e_addS, e_eqI, e_neI, hcl, hi2, hi3])) ⟨_, rfl⟩ (fun i d δ hd hp => ?_) (fun δ hp => ?_)
  · obtain ⟨r, rfl⟩ := hp
    refine ⟨by simp, fun K hK => ?_⟩
    rw [List.getElem?_map] at hd
    obtain ⟨k, hk, rfl⟩ := Option.map_eq_some_iff.mp hd
    obtain ⟨hk1, hk2⟩ := List.getElem?_eq_some_iff.mp hk
    rw [List.getElem_range] at hk2
    rw [List.length_range] at hk1
    subst hk2
    have := turn_ok ns r nm (2 + i) hl (by omega) hno (by omega) (by omega) K R E fun r2 => hK _ ⟨r2, rfl⟩
    simpa using this
  · obtain ⟨r, rfl⟩ := hp
    refine hK _ ?_
    have he : (nm.map D.str).all eqD = true := by
      rw [List.all_map, List.all_eq_true]
      exact fun s hs => (hno.all s hs).2
    refine wp_seq fun K hK => ?_
    (simp (disch := first | assumption | omega) [wpX_ite, List.getElem?_cons_zero, e_modP, e_divP, e_mulR, e_mulL, e_powI, e_addS, e_eqI, e_neI, eq_lst he])
    exact hR
end TT.K82
end
section
set_option maxRecDepth 100000
set_option maxHeartbeats 0
namespace TT.K82
open PySem PySem.Spec PyProof.Rows L2 TT
def d0 : He.DefD := ⟨("_law_names", none), "_law_names", "_law_names", defArgs (top 32), defBody (top 32), defScope (top 32), [], []⟩
def d1 : He.DefD := ⟨("_law_cell_at", none), "_law_cell_at", "_law_cell_at", defArgs (top 29), defBody (top 29), defScope (top 29), [], []⟩
def d2 : He.DefD := ⟨("_law_mixed", none), "_law_mixed", "_law_mixed", defArgs (top 30), defBody (top 30), defScope (top 30), [], []⟩
def d3 : He.DefD := ⟨("_law_rest", none), "_law_rest", "_law_rest", defArgs (top 31), defBody (top 31), defScope (top 31), [], []⟩
def d4 : He.DefD := ⟨("_law_said", none), "_law_said", "_law_said", defArgs (top 34), defBody (top 34), defScope (top 34), [], []⟩
def d5 : He.DefD := ⟨("_law_marks", none), "_law_marks", "_law_marks", defArgs (top 35), defBody (top 35), defScope (top 35), [], []⟩
def d6 : He.DefD := ⟨("is_name", none), "is_name", "is_name", defArgs (top 23), defBody (top 23), defScope (top 23), [], []⟩
def d7 : He.DefD := ⟨("look_names", none), "look_names", "look_names", defArgs (top 24), defBody (top 24), defScope (top 24), [], []⟩
def d8 : He.DefD := ⟨("is_saying", none), "is_saying", "is_saying", defArgs (top 25), defBody (top 25), defScope (top 25), [], []⟩
def d9 : He.DefD := ⟨("shown_saying", none), "shown_saying", "shown_saying", defArgs (top 26), defBody (top 26), defScope (top 26), [], []⟩
def d10 : He.DefD := ⟨("_law_bent", none), "_law_bent", "_law_bent", defArgs (top 36), defBody (top 36), defScope (top 36), [], []⟩
def d11 : He.DefD := ⟨("_law_reader", none), "_law_reader", "_law_reader", defArgs (top 37), defBody (top 37), defScope (top 37), [], []⟩
def d12 : He.DefD := ⟨("read_saying", none), "read_saying", "read_saying", defArgs (top 27), defBody (top 27), defScope (top 27), [], []⟩
def d13 : He.DefD := ⟨("_law_alone", none), "_law_alone", "_law_alone", defArgs (top 33), defBody (top 33), defScope (top 33), [], []⟩
def d14 : He.DefD := ⟨("_law_good", none), "_law_good", "_law_good", defArgs (top 38), defBody (top 38), defScope (top 38), [], []⟩
def d15 : He.DefD := ⟨("law", none), "law", "law", defArgs (top 39), defBody (top 39), defScope (top 39), [], []⟩
def de_NoText : He.DefD := ⟨("NoText", some "__init__"), "__init__", "NoText.__init__", defArgs (inClass (top 17) 0), defBody (inClass (top 17) 0), defScope (inClass (top 17) 0), [], []⟩
def fa0 : List He.Fa := [.glo "_law_names", .glo "_law_cell_at", .glo "_law_mixed", .glo "_law_rest", .glo "_law_said", .glo "_law_marks", .glo "is_name", .glo "look_names", .glo "is_saying", .glo "shown_saying", .glo "_law_bent", .glo "_law_reader"]
def fa1 : List He.Fa := [.glo "read_saying", .glo "_law_alone", .glo "_law_good", .glo "law", .glo "DrawError", .glo "NoBottom", .glo "BadPlace", .glo "BadSaying", .glo "TooMany", .glo "BadChain", .glo "NoName", .glo "BadName"]
def fa2 : List He.Fa := [.glo "NoLine", .glo "NoStep", .glo "BadStep", .glo "BadThing", .glo "TooFree", .glo "TooDeep", .glo "BadKnown", .glo "CantMake", .glo "NoText", .glo "SAYINGS", .free "ValueError", .free "abs"]
def fa3 : List He.Fa := [.free "bool", .free "int", .free "isinstance", .free "len", .free "list", .free "min", .free "range", .free "set", .free "str", .free "tuple", .int "MOST_NAME" 8, .str "FIGURES" "0123456789"]
def fa4 : List He.Fa := [.str "SMALL_LETTERS" "abcdefghijklmnopqrstuvwxyz"]
def fa : List He.Fa := fa0 ++ fa1 ++ fa2 ++ fa3 ++ fa4
def fn0 : List He.DefD := [d0, d1, d2, d3, d4, d5, d6, d7, d8, d9, d10, d11]
def fn1 : List He.DefD := [d12, d13, d14, d15, de_NoText]
def fn : List He.DefD := fn0 ++ fn1
def k_SAYINGS : List PySem.Str := ["inline", "one", "on", "aside", "asquare", "same", "sameline", "far", "areas", "ring", "angles", "evenpair", "touches", "touching", "squareround", "evenround"]
def ts : List He.Tab := [(fun K => He.ga K "SAYINGS", k_SAYINGS)]
def ex (K : PySem.W.Frag) : Bool := noInts K && (exAll K excNames sub && (attB K clsN clsF excNames excF "line" ix_line cs_line && (rz0B K "BadName" && (rz0B K "BadSaying" && (rz1B K "NoText" "line" && (tabB K "SAYINGS" t_SAYINGS))))))
def asF : AsF := fun g => He.asD g 5
abbrev R : PySem.W.OpenRow := PySem.W.OpenLaw.row PySem.Challenge.rw_everydraw_k82_sayings_written_down
abbrev hk : PySem.W.Hook := hookA asF fa fn ts ex
def ob (s : PySem.W.SharedT) : AlA := obsA asF fa fn ts ex (HandSHeadRun.getT s)
theorem ob_eq (s : PySem.W.SharedT) : ob s = hk.obs s.abs := obsA_eq (HandSHeadRun.getT_eq s)
def nm0 : List PySem.Str := ["DrawError", "NoBottom", "BadPlace", "BadSaying", "TooMany", "BadChain", "NoName", "BadName", "NoLine", "NoStep", "BadStep", "BadThing"]
def nm1 : List PySem.Str := ["TooFree", "TooDeep", "BadKnown", "CantMake", "NoText", "SAYINGS", "SMALL_LETTERS", "FIGURES", "MOST_NAME", "is_name", "look_names", "is_saying"]
def nm2 : List PySem.Str := ["shown_saying", "read_saying", "_law_cell_at", "_law_mixed", "_law_rest", "_law_names", "_law_alone", "_law_said", "_law_marks", "_law_bent", "_law_reader", "_law_good"]
def names : List PySem.Str := nm0 ++ nm1 ++ nm2
theorem run_false (w : World) : HandSHeadRun.RunEq R (PySem.W.view R.prog [39]) hk ob 6000 names (w.withFollow "special-get-raises" false) := by
  intro os
  kernel_rfl
theorem run_true (w : World) : HandSHeadRun.RunEq R (PySem.W.view R.prog [39]) hk ob 6000 names (w.withFollow "special-get-raises" true) := by
  intro os
  kernel_rfl
theorem run (w : World) : HandSHeadRun.RunEq R (PySem.W.view R.prog [39]) hk ob 6000 names w :=
  PySem.W.byRow2 "special-get-raises" (P := fun w => HandSHeadRun.RunEq R (PySem.W.view R.prog [39]) hk ob 6000 names w) run_false run_true w
theorem sub_in : ∀ c e, sub c e = sub (if c < excNames.length then c else 0) (if e < excNames.length then e else 0) := fun c e => by
  have h : excNames.length = 17 := rfl
  rw [h]
  unfold sub
  by_cases h1 : c < 17 <;> by_cases h2 : e < 17 <;> simp [h1, h2]
abbrev FX (P : Program) (w : World) (K : PySem.W.Frag) (mg : PySem.Str → Option Value) (base : Heap) : Fx := mkF P w K mg base excNames excF clsN clsF
theorem sc_NoText_i : FnScope ["self", "line"] ["self", "line"] (defScope (inClass (top 17) 0)) := ⟨rfl, rfl, rfl, by decide +kernel, rfl, by decide +kernel, by decide +kernel⟩
theorem facts_of {P : Program} {w : World} {K : PySem.W.Frag} {h : Heap} {mg : PySem.Str → Option Value} (base : Heap) (X : K.In h) (G : h.Ns mainGlobals mg) (c : He.SaysT fa fn ts w K) (e : ex K = true) : Facts (FX P w K mg base) := by
  have fct : ∀ (i : Nat) (f : He.Fa), fa[i]? = some f → f.ok K = true := fun i f hf => c.d.fact i hf
  obtain ⟨e0, e⟩ := ba e
  obtain ⟨e1, e⟩ := ba e
  obtain ⟨e2, e⟩ := ba e
  obtain ⟨e3, e⟩ := ba e
  obtain ⟨e4, e⟩ := ba e
  obtain ⟨e5, e⟩ := ba e
  exact {
    E := exF_of e1 rfl sub_in
    nb_ValueError := He.free_ok X G (fct 34 (.free "ValueError") rfl)
    nb_abs := He.free_ok X G (fct 35 (.free "abs") rfl)
    nb_bool := He.free_ok X G (fct 36 (.free "bool") rfl)
    nb_int := He.free_ok X G (fct 37 (.free "int") rfl)
    nb_isinstance := He.free_ok X G (fct 38 (.free "isinstance") rfl)
    nb_len := He.free_ok X G (fct 39 (.free "len") rfl)
    nb_list := He.free_ok X G (fct 40 (.free "list") rfl)
    nb_min := He.free_ok X G (fct 41 (.free "min") rfl)
    nb_range := He.free_ok X G (fct 42 (.free "range") rfl)
    nb_set := He.free_ok X G (fct 43 (.free "set") rfl)
    nb_str := He.free_ok X G (fct 44 (.free "str") rfl)
    nb_tuple := He.free_ok X G (fct 45 (.free "tuple") rfl)
    at_line := att_of e2
    ex_BadChain := ex_of (x := "BadChain") (He.glo_ok X G (fct 21 (.glo "BadChain") rfl)) rfl
    ex_BadKnown := ex_of (x := "BadKnown") (He.glo_ok X G (fct 30 (.glo "BadKnown") rfl)) rfl
    ex_BadName := ex_of (x := "BadName") (He.glo_ok X G (fct 23 (.glo "BadName") rfl)) rfl
    ex_BadPlace := ex_of (x := "BadPlace") (He.glo_ok X G (fct 18 (.glo "BadPlace") rfl)) rfl
    ex_BadSaying := ex_of (x := "BadSaying") (He.glo_ok X G (fct 19 (.glo "BadSaying") rfl)) rfl
    ex_BadStep := ex_of (x := "BadStep") (He.glo_ok X G (fct 26 (.glo "BadStep") rfl)) rfl
    ex_BadThing := ex_of (x := "BadThing") (He.glo_ok X G (fct 27 (.glo "BadThing") rfl)) rfl
    ex_CantMake := ex_of (x := "CantMake") (He.glo_ok X G (fct 31 (.glo "CantMake") rfl)) rfl
    ex_DrawError := ex_of (x := "DrawError") (He.glo_ok X G (fct 16 (.glo "DrawError") rfl)) rfl
    ex_NoBottom := ex_of (x := "NoBottom") (He.glo_ok X G (fct 17 (.glo "NoBottom") rfl)) rfl
    ex_NoLine := ex_of (x := "NoLine") (He.glo_ok X G (fct 24 (.glo "NoLine") rfl)) rfl
    ex_NoName := ex_of (x := "NoName") (He.glo_ok X G (fct 22 (.glo "NoName") rfl)) rfl
    ex_NoStep := ex_of (x := "NoStep") (He.glo_ok X G (fct 25 (.glo "NoStep") rfl)) rfl
    ex_NoText := ex_of (x := "NoText") (He.glo_ok X G (fct 32 (.glo "NoText") rfl)) rfl
    ex_TooDeep := ex_of (x := "TooDeep") (He.glo_ok X G (fct 29 (.glo "TooDeep") rfl)) rfl
    ex_TooFree := ex_of (x := "TooFree") (He.glo_ok X G (fct 28 (.glo "TooFree") rfl)) rfl
    ex_TooMany := ex_of (x := "TooMany") (He.glo_ok X G (fct 20 (.glo "TooMany") rfl)) rfl
    gi_MOST_NAME := He.int_ok X G (fct 46 (.int "MOST_NAME" 8) rfl)
    rz_BadName := rz0_of e3 (He.glo_ok X G (fct 23 (.glo "BadName") rfl)) rfl
    rz_BadSaying := rz0_of e4 (He.glo_ok X G (fct 19 (.glo "BadSaying") rfl)) rfl
    rz_NoText := rz1_of e5 (He.glo_ok X G (fct 32 (.glo "NoText") rfl)) rfl rfl (s := "self") (p := "line") (c.d.def_ 16 (d := de_NoText) rfl).choose_spec (sc_NoText_i) (fun X G => .mk (gv G 0) (gv G 1) rfl) (FunD.bindsN (c.d.def_ 16 (d := de_NoText) rfl).choose_spec fun _ _ _ _ _ _ us hl => match us, hl with | [_, _], _ => rfl)
    gs_FIGURES := He.str_ok X G (fct 47 (.str "FIGURES" "0123456789") rfl)
    gs_SMALL_LETTERS := He.str_ok X G (fct 48 (.str "SMALL_LETTERS" "abcdefghijklmnopqrstuvwxyz") rfl)
    tb_SAYINGS := tab_of e (He.glo_ok X G (fct 33 (.glo "SAYINGS") rfl)) (c.tab 0 rfl)
    fd__law_names := ⟨_, (c.d.def_ 0 (d := d0) rfl).choose, (c.d.def_ 0 (d := d0) rfl).choose_spec, (He.glo_ok X G (fct 0 (.glo "_law_names") rfl))⟩
    fd__law_cell_at := ⟨_, (c.d.def_ 1 (d := d1) rfl).choose, (c.d.def_ 1 (d := d1) rfl).choose_spec, (He.glo_ok X G (fct 1 (.glo "_law_cell_at") rfl))⟩
    fd__law_mixed := ⟨_, (c.d.def_ 2 (d := d2) rfl).choose, (c.d.def_ 2 (d := d2) rfl).choose_spec, (He.glo_ok X G (fct 2 (.glo "_law_mixed") rfl))⟩
    fd__law_rest := ⟨_, (c.d.def_ 3 (d := d3) rfl).choose, (c.d.def_ 3 (d := d3) rfl).choose_spec, (He.glo_ok X G (fct 3 (.glo "_law_rest") rfl))⟩
    fd__law_said := ⟨_, (c.d.def_ 4 (d := d4) rfl).choose, (c.d.def_ 4 (d := d4) rfl).choose_spec, (He.glo_ok X G (fct 4 (.glo "_law_said") rfl))⟩
    fd__law_marks := ⟨_, (c.d.def_ 5 (d := d5) rfl).choose, (c.d.def_ 5 (d := d5) rfl).choose_spec, (He.glo_ok X G (fct 5 (.glo "_law_marks") rfl))⟩
    fd_is_name := ⟨_, (c.d.def_ 6 (d := d6) rfl).choose, (c.d.def_ 6 (d := d6) rfl).choose_spec, (He.glo_ok X G (fct 6 (.glo "is_name") rfl))⟩
    fd_look_names := ⟨_, (c.d.def_ 7 (d := d7) rfl).choose, (c.d.def_ 7 (d := d7) rfl).choose_spec, (He.glo_ok X G (fct 7 (.glo "look_names") rfl))⟩
    fd_is_saying := ⟨_, (c.d.def_ 8 (d := d8) rfl).choose, (c.d.def_ 8 (d := d8) rfl).choose_spec, (He.glo_ok X G (fct 8 (.glo "is_saying") rfl))⟩
    fd_shown_saying := ⟨_, (c.d.def_ 9 (d := d9) rfl).choose, (c.d.def_ 9 (d := d9) rfl).choose_spec, (He.glo_ok X G (fct 9 (.glo "shown_saying") rfl))⟩
    fd__law_bent := ⟨_, (c.d.def_ 10 (d := d10) rfl).choose, (c.d.def_ 10 (d := d10) rfl).choose_spec, (He.glo_ok X G (fct 10 (.glo "_law_bent") rfl))⟩
    fd__law_reader := ⟨_, (c.d.def_ 11 (d := d11) rfl).choose, (c.d.def_ 11 (d := d11) rfl).choose_spec, (He.glo_ok X G (fct 11 (.glo "_law_reader") rfl))⟩
    fd_read_saying := ⟨_, (c.d.def_ 12 (d := d12) rfl).choose, (c.d.def_ 12 (d := d12) rfl).choose_spec, (He.glo_ok X G (fct 12 (.glo "read_saying") rfl))⟩
    fd__law_alone := ⟨_, (c.d.def_ 13 (d := d13) rfl).choose, (c.d.def_ 13 (d := d13) rfl).choose_spec, (He.glo_ok X G (fct 13 (.glo "_law_alone") rfl))⟩
    fd__law_good := ⟨_, (c.d.def_ 14 (d := d14) rfl).choose, (c.d.def_ 14 (d := d14) rfl).choose_spec, (He.glo_ok X G (fct 14 (.glo "_law_good") rfl))⟩
    fd_law := ⟨_, (c.d.def_ 15 (d := d15) rfl).choose, (c.d.def_ 15 (d := d15) rfl).choose_spec, (He.glo_ok X G (fct 15 (.glo "law") rfl))⟩
  }
theorem law_ok {P : Program} {w : World} {K : PySem.W.Frag} {h : Heap} {mg : PySem.Str → Option Value} {fa0 : Addr} (X : K.In h) (G : h.Ns mainGlobals mg) (hm : mg ("law" : PySem.Str) = some (.ref fa0)) (c : He.SaysT fa fn ts w K) (e : ex K = true) :
    ∃ fd : FuncData, (∀ (s : Shared) (v : Value), BindsTo s fd ⟨[v], []⟩ [("_law_script", v)]) ∧ ∀ base : Heap, K.In base → base.Ns mainGlobals mg → FnOk P w K mg base CX0 4 fa0 fd ["_law_script"] (fun vs H Q _ => spT (FX P w K mg base).T 1 g_law vs H Q E0) := by
  obtain ⟨fd, Fd⟩ := c.d.def_ 15 (d := d15) rfl
  have hm2 : mg ("law" : PySem.Str) = some (.ref (He.ga K "law")) := He.glo_ok X G (c.d.fact 15 (f := .glo "law") rfl)
  have e2 : fa0 = He.ga K "law" := by
    rw [hm] at hm2; cases hm2; rfl
  subst e2
  have b := FunD.bindsA (ps := ["_law_script"]) Fd fun _ _ _ _ _ _ us hl => match us, hl with | [_], _ => rfl
  refine ⟨fd, fun s v => b s [v] rfl, fun base _ _ => calm_of ?_⟩
  exact fn_ok (F := FX P w K mg base) Fd sc_law fun X2 W B G2 g => w_law (facts_of base X G c e) G2 g
end TT.K82
open PySem PySem.W PySem.Calls PyProof.Rows
theorem PySem.Challenge.cw_everydraw_k82_sayings_written_down_holds : PySem.Challenge.rw_everydraw_k82_sayings_written_down.Holds := by
  w_on; o_law
  refine HandSHeadRun.head_any (r := OpenLaw.row PySem.Challenge.rw_everydraw_k82_sayings_written_down) (q := view (OpenLaw.row PySem.Challenge.rw_everydraw_k82_sayings_written_down).prog [39]) (H := TT.K82.hk) (ob := TT.K82.ob) (M := 6000) (loose := TT.K82.names) (d := HandSHeadRun.topDef (OpenLaw.row PySem.Challenge.rw_everydraw_k82_sayings_written_down).prog 39) (kwd := []) TT.K82.ob_eq
    (by kernel_rfl) (fun s => by kernel_rfl) TT.K82.run (by kernel_rfl) (by kernel_rfl) (by kernel_rfl) (by rfl) (by first | assumption | decide +kernel) (by decide +kernel) ⟨rfl, rfl, rfl, rfl, rfl, by decide +kernel⟩ ?hw ?hc
  case hw => w_witness2
  case hc =>
    refine L2.walk_ofE (l := PySem.Challenge.rw_everydraw_k82_sayings_written_down) (n := 63) (k := 4) (x := "_law_script") (CX := L2.CX0) rfl (by decide) (by kernel_rfl) ⟨rfl, by decide, by decide⟩ ?F (fun _ _ _ _ z => z)
    intro w mg fa h Y G hmg0
    obtain ⟨K, KX, c, e⟩ := Y
    have hmg : mg ("law" : PySem.Str) = some (.ref fa) := by
      have e : (HandSHeadRun.topDef (OpenLaw.row PySem.Challenge.rw_everydraw_k82_sayings_written_down).prog 39).name = ("law" : PySem.Str) := by kernel_rfl
      rw [← e]
      exact hmg0
    obtain ⟨fd, hb, hF⟩ := TT.K82.law_ok (P := (PySem.Challenge.rw_everydraw_k82_sayings_written_down).prog) (w := w) KX G hmg c e
    have hn : TT.noInts K = true := (TT.ba e).1
    exact ⟨K, fd, fun vs H Q _ => TT.spT (TT.K82.FX (PySem.Challenge.rw_everydraw_k82_sayings_written_down).prog w K mg h).T 1 TT.K82.g_law vs H Q L2.E0, KX, hb, fun H a ns hl _ hS => TT.law_sp (F := TT.K82.FX (PySem.Challenge.rw_everydraw_k82_sayings_written_down).prog w K mg h) hn hS (TT.K82.plain ns hl), hF⟩
end
