import PyProof.Rows.All
import Wide.All
import OpenK.AllK
import Wide.FinOn
import KE.KStateDown
import Lean
import HandS.ForMost
import HandS.ForExc
import HandS.Words
import HandS.WordsExc
import HandS.Defaults
import HandS.Deep
import HandS.TupAny
import HandS.Conv
import HandS.StrMore
import HandS.ExcOwn
import HandS.CallSlots
import HandS.Head0
import HandS.Head1
import HandS.Head2
import HandS.HeadEnd
import HandS.HeadHook1
import HandS.HeadHook2
import HandS.HeadHook3
import HandS.IsInst
import HandS.WordsDict
import HandS.ClsMeth
import HandS.Zip
import PySem.Challenge.RW_heldcalls_k01_names
set_option Elab.async false
set_option linter.all false
set_option maxRecDepth 100000
set_option maxHeartbeats 4000000
/-! Ev, part A: plain data, what it stands for in the abstract heap, ownership. -/
namespace Ev
open PySem PySem.Spec PyProof.Rows L2
/-- plain data: what a Python value is worth -/
inductive D where
  | non | bl (b : Bool) | int (i : Int) | str (x : Str)
  | tup (xs : List D) | lst (xs : List D)
  | dic (ks : List Key) (vs : List D)
  | ins (c : Nat) (fs : List D)
  | lck (ns : List Int)
/-- the program's classes: name, fields in the order of their making -/
structure Cl where
  name : Str
  fields : List Str
def clsT : Nat → Cl
  | 0 => ⟨"Library", ["_locks", "_hook_rows", "_routine_rows", "_entries"]⟩
  | 1 => ⟨"Reader", ["known", "lock_names", "hook_rows", "routine_rows", "entry_names", "call_lengths", "expected", "part", "current", "body", "taken", "cost"]⟩
  | 2 => ⟨"Thread", ["_library", "_frames", "_held", "_pending", "_length", "_run"]⟩
  | 3 => ⟨"Machine", ["_library", "_reentrant", "_threads", "_steps"]⟩
  | 4 => ⟨"Search", ["library", "held_there", "before", "late_ways", "settled", "candidates"]⟩
  | 5 => ⟨"Table", ["_locks", "_lengths", "rows"]⟩
  | 6 => ⟨"Unsafe", ["reentrant", "_library", "requests", "total", "threads", "schedule"]⟩
  | _ => ⟨"Safe", ["reentrant", "contexts", "chains"]⟩
def clsA (K : PySem.W.Frag) (c : Nat) : Addr := He.ga K (clsT c).name
mutual
/-- the value v stands for d, by objects of H -/
def Is (K : PySem.W.Frag) (H : Hp) : D → V → Prop
  | .non, v => v = .non
  | .bl b, v => v = .bl b
  | .int i, v => v = .int i
  | .str x, v => v = .str x ∧ PyData.strOk x = true
  | .tup ds, v => ∃ a vs, v = .ref a ∧ H a = some (.tup vs) ∧ IsL K H ds vs
  | .lst ds, v => ∃ a vs, v = .ref a ∧ H a = some (.lst vs) ∧ IsL K H ds vs
  | .dic ks ds, v => ∃ a kvs, v = .ref a ∧ H a = some (.dK kvs) ∧ kvs.map (·.1) = ks ∧ IsL K H ds (kvs.map (·.2))
  | .ins c ds, v => ∃ a dx vs, v = .ref a ∧ H a = some (.ins (clsA K c) dx ((clsT c).fields.zip vs)) ∧ vs.length = (clsT c).fields.length ∧ IsL K H ds vs
  | .lck ns, v => ∃ a, v = .ref a ∧ SqL K H a (ns.map V.int)
def IsL (K : PySem.W.Frag) (H : Hp) : List D → List V → Prop
  | [], vs => vs = []
  | d :: ds, vs => ∃ v r, vs = v :: r ∧ Is K H d v ∧ IsL K H ds r
end
variable {K : PySem.W.Frag} {F G H F' G' H' : Hp}
theorem Is.str {x : Str} (h : PyData.strOk x = true) : Is K H (.str x) (.str x) := by
  simp only [Is]
  exact ⟨trivial, h⟩
mutual
theorem Is.mono (s : Same H H') : ∀ {d : D} {v : V}, Is K H d v → Is K H' d v
  | .non, _, h => h
  | .bl _, _, h => h
  | .int _, _, h => h
  | .str _, _, h => h
  | .tup ds, _, h => by
    simp only [Is] at h ⊢
    obtain ⟨a, vs, e, h1, h2⟩ := h
    exact ⟨a, vs, e, s _ _ h1, IsL.mono s h2⟩
  | .lst ds, _, h => by
    simp only [Is] at h ⊢
    obtain ⟨a, vs, e, h1, h2⟩ := h
    exact ⟨a, vs, e, s _ _ h1, IsL.mono s h2⟩
  | .dic ks ds, _, h => by
    simp only [Is] at h ⊢
    obtain ⟨a, kvs, e, h1, h2, h3⟩ := h
    exact ⟨a, kvs, e, s _ _ h1, h2, IsL.mono s h3⟩
  | .ins c ds, _, h => by
    simp only [Is] at h ⊢
    obtain ⟨a, dx, vs, e, h1, h2, h3⟩ := h
    exact ⟨a, dx, vs, e, s _ _ h1, h2, IsL.mono s h3⟩
  | .lck ns, _, h => by
    simp only [Is] at h ⊢
    obtain ⟨a, e, h1⟩ := h
    exact ⟨a, e, s.seq h1⟩
theorem IsL.mono (s : Same H H') : ∀ {ds : List D} {vs : List V}, IsL K H ds vs → IsL K H' ds vs
  | [], _, h => h
  | d :: ds, _, h => by
    simp only [IsL] at h ⊢
    obtain ⟨v, r, e, h1, h2⟩ := h
    exact ⟨v, r, e, Is.mono s h1, IsL.mono s h2⟩
end
theorem IsL.length : ∀ {ds : List D} {vs : List V}, IsL K H ds vs → vs.length = ds.length
  | [], _, h => by simp only [IsL] at h; rw [h]; rfl
  | d :: ds, _, h => by
    simp only [IsL] at h
    obtain ⟨v, r, rfl, _, h2⟩ := h
    rw [List.length_cons, List.length_cons, IsL.length h2]
theorem IsL.get : ∀ {ds : List D} {vs : List V} {i : Nat} {d : D}, IsL K H ds vs → ds[i]? = some d → ∃ v, vs[i]? = some v ∧ Is K H d v
  | [], _, _, _, _, e => by simp at e
  | d :: ds, _, 0, _, h, e => by
    simp only [IsL] at h
    obtain ⟨v, r, rfl, h1, _⟩ := h
    simp at e; subst e
    exact ⟨v, rfl, h1⟩
  | d :: ds, _, i + 1, _, h, e => by
    simp only [IsL] at h
    obtain ⟨v, r, rfl, _, h2⟩ := h
    obtain ⟨w, hw, h3⟩ := IsL.get (i := i) h2 (by simpa using e)
    exact ⟨w, by simpa using hw, h3⟩
theorem IsL.getV : ∀ {ds : List D} {vs : List V} {i : Nat} {v : V}, IsL K H ds vs → vs[i]? = some v → ∃ d, ds[i]? = some d ∧ Is K H d v := fun {ds vs i v} h e => by
  have hl := h.length
  have hi : i < ds.length := by rw [← hl]; exact (List.getElem?_eq_some_iff.mp e).1
  obtain ⟨w, hw, h3⟩ := h.get (i := i) (d := ds[i]) (List.getElem?_eq_getElem hi)
  rw [e] at hw; cases hw
  exact ⟨_, List.getElem?_eq_getElem hi, h3⟩
theorem IsL.append : ∀ {ds es : List D} {vs ws : List V}, IsL K H ds vs → IsL K H es ws → IsL K H (ds ++ es) (vs ++ ws)
  | [], _, _, _, h, h2 => by simp only [IsL] at h; subst h; exact h2
  | d :: ds, _, _, _, h, h2 => by
    simp only [IsL] at h
    obtain ⟨v, r, rfl, h3, h4⟩ := h
    exact ⟨v, _, rfl, h3, IsL.append h4 h2⟩
theorem IsL.take : ∀ (n : Nat) {ds : List D} {vs : List V}, IsL K H ds vs → IsL K H (ds.take n) (vs.take n)
  | 0, _, _, _ => by simp [IsL]
  | n + 1, [], _, h => by simp only [IsL] at h; subst h; simp [IsL]
  | n + 1, d :: ds, _, h => by
    simp only [IsL] at h
    obtain ⟨v, r, rfl, h3, h4⟩ := h
    exact ⟨v, _, rfl, h3, IsL.take n h4⟩
theorem IsL.drop : ∀ (n : Nat) {ds : List D} {vs : List V}, IsL K H ds vs → IsL K H (ds.drop n) (vs.drop n)
  | 0, _, _, h => h
  | n + 1, [], _, h => by simp only [IsL] at h; subst h; simp [IsL]
  | n + 1, d :: ds, _, h => by
    simp only [IsL] at h
    obtain ⟨v, r, rfl, h3, h4⟩ := h
    exact IsL.drop n h4
theorem IsL.set : ∀ (i : Nat) {ds : List D} {vs : List V} {d : D} {v : V}, IsL K H ds vs → Is K H d v → IsL K H (ds.set i d) (vs.set i v)
  | _, [], _, _, _, h, _ => by simp only [IsL] at h; subst h; simp [IsL]
  | 0, e :: ds, _, d, v, h, h1 => by
    simp only [IsL] at h
    obtain ⟨w, r, rfl, _, h4⟩ := h
    exact ⟨v, r, rfl, h1, h4⟩
  | i + 1, e :: ds, _, d, v, h, h1 => by
    simp only [IsL] at h
    obtain ⟨w, r, rfl, h3, h4⟩ := h
    exact ⟨w, _, rfl, h3, IsL.set i h4 h1⟩
theorem IsL.rev {ds : List D} : ∀ {vs : List V}, IsL K H ds vs → IsL K H ds.reverse vs.reverse := by
  induction ds with
  | nil => intro vs h; simp only [IsL] at h; subst h; simp [IsL]
  | cons d ds ih =>
    intro vs h
    simp only [IsL] at h
    obtain ⟨v, r, rfl, h3, h4⟩ := h
    rw [List.reverse_cons, List.reverse_cons]
    exact (ih h4).append ⟨v, [], rfl, h3, rfl⟩

/-! ### ownership: what may be changed -/
inductive OT where
  | fz | bw | lst (o : OT) | dic | ins (os : List OT)
/-- seen by its items alone (bw): a list or a dict whose items are frozen, or frozen itself -/
def Bw (K : PySem.W.Frag) (F H : Hp) (d : D) (v : V) (A : List Addr) : Prop :=
  (A = [] ∧ Is K F d v) ∨ (∃ ds a vs, d = .lst ds ∧ v = .ref a ∧ H a = some (.lst vs) ∧ IsL K F ds vs ∧ A = [a]) ∨
    (∃ ks ds a kvs, d = .dic ks ds ∧ v = .ref a ∧ H a = some (.dK kvs) ∧ kvs.map (·.1) = ks ∧ IsL K F ds (kvs.map (·.2)) ∧ A = [a])
theorem Bw.frame {d : D} {v : V} {A : List Addr} (s : Same F F') (h : Bw K F H d v A) (k : ∀ a ∈ A, H' a = H a) : Bw K F' H' d v A := by
  rcases h with ⟨e, h⟩ | ⟨ds, a, vs, e1, e2, h1, h2, rfl⟩ | ⟨ks, ds, a, kvs, e1, e2, h1, h2, h3, rfl⟩
  · exact .inl ⟨e, h.mono s⟩
  · exact .inr (.inl ⟨ds, a, vs, e1, e2, (k a (by simp)).trans h1, h2.mono s, rfl⟩)
  · exact .inr (.inr ⟨ks, ds, a, kvs, e1, e2, (k a (by simp)).trans h1, h2, h3.mono s, rfl⟩)
theorem Bw.there {d : D} {v : V} {A : List Addr} (h : Bw K F H d v A) : ∀ a ∈ A, H a ≠ none := by
  intro b hb
  rcases h with ⟨e, h⟩ | ⟨ds, a, vs, e1, e2, h1, h2, rfl⟩ | ⟨ks, ds, a, kvs, e1, e2, h1, h2, h3, rfl⟩
  · rw [e] at hb; cases hb
  · rcases List.mem_cons.mp hb with rfl | hb
    · rw [h1]; simp
    · cases hb
  · rcases List.mem_cons.mp hb with rfl | hb
    · rw [h1]; simp
    · cases hb
theorem Bw.freeze {d : D} {v : V} {A : List Addr} (s : Same F F') (h : Bw K F H d v A) (k : ∀ a ∈ A, F' a = H a) : Is K F' d v := by
  rcases h with ⟨e, h⟩ | ⟨ds, a, vs, rfl, e2, h1, h2, rfl⟩ | ⟨ks, ds, a, kvs, rfl, e2, h1, h2, h3, rfl⟩
  · exact h.mono s
  · simp only [Is]
    exact ⟨a, vs, e2, (k a (by simp)).trans h1, h2.mono s⟩
  · simp only [Is]
    exact ⟨a, kvs, e2, (k a (by simp)).trans h1, h2, h3.mono s⟩
mutual
/-- d stands at v, changeable as o says; the changeable objects stand in H at A, the rest is d's by F -/
def Own (K : PySem.W.Frag) (F H : Hp) : OT → D → V → List Addr → Prop
  | .fz, d, v, A => A = [] ∧ Is K F d v
  | .bw, d, v, A => Bw K F H d v A
  | .lst o, .lst ds, v, A => ∃ a vs B, v = .ref a ∧ H a = some (.lst vs) ∧ OwnL K F H o ds vs B ∧ A = a :: B
  | .dic, .dic ks ds, v, A => ∃ a kvs, v = .ref a ∧ H a = some (.dK kvs) ∧ kvs.map (·.1) = ks ∧ IsL K F ds (kvs.map (·.2)) ∧ A = [a]
  | .ins os, .ins c ds, v, A => ∃ a dx vs B, v = .ref a ∧ H a = some (.ins (clsA K c) dx ((clsT c).fields.zip vs)) ∧ vs.length = (clsT c).fields.length ∧ OwnS K F H os ds vs B ∧ A = a :: B
  | _, _, _, _ => False
def OwnL (K : PySem.W.Frag) (F H : Hp) : OT → List D → List V → List Addr → Prop
  | _, [], vs, A => vs = [] ∧ A = []
  | o, d :: ds, vs, A => ∃ v r A1 A2, vs = v :: r ∧ Own K F H o d v A1 ∧ OwnL K F H o ds r A2 ∧ A = A1 ++ A2
def OwnS (K : PySem.W.Frag) (F H : Hp) : List OT → List D → List V → List Addr → Prop
  | [], [], vs, A => vs = [] ∧ A = []
  | o :: os, d :: ds, vs, A => ∃ v r A1 A2, vs = v :: r ∧ Own K F H o d v A1 ∧ OwnS K F H os ds r A2 ∧ A = A1 ++ A2
  | _, _, _, _ => False
end
mutual
/-- F may grow, the objects at A are kept -/
theorem Own.frame (s : Same F F') : ∀ {o : OT} {d : D} {v : V} {A : List Addr}, Own K F H o d v A → (∀ a ∈ A, H' a = H a) → Own K F' H' o d v A
  | .fz, d, v, A, h, _ => by
    simp only [Own] at h ⊢
    exact ⟨h.1, h.2.mono s⟩
  | .bw, d, v, A, h, k => by
    simp only [Own] at h ⊢
    exact h.frame s k
  | .lst o, .lst ds, v, A, h, k => by
    simp only [Own] at h ⊢
    obtain ⟨a, vs, B, e, h1, h2, rfl⟩ := h
    exact ⟨a, vs, B, e, (k a (by simp)).trans h1, OwnL.frame s h2 fun b hb => k b (by simp [hb]), rfl⟩
  | .dic, .dic ks ds, v, A, h, k => by
    simp only [Own] at h ⊢
    obtain ⟨a, kvs, e, h1, h2, h3, rfl⟩ := h
    exact ⟨a, kvs, e, (k a (by simp)).trans h1, h2, h3.mono s, rfl⟩
  | .ins os, .ins c ds, v, A, h, k => by
    simp only [Own] at h ⊢
    obtain ⟨a, dx, vs, B, e, h1, h2, h3, rfl⟩ := h
    exact ⟨a, dx, vs, B, e, (k a (by simp)).trans h1, h2, OwnS.frame s h3 fun b hb => k b (by simp [hb]), rfl⟩
  | .lst _, .non, _, _, h, _ => by simp [Own] at h
  | .lst _, .bl _, _, _, h, _ => by simp [Own] at h
  | .lst _, .int _, _, _, h, _ => by simp [Own] at h
  | .lst _, .str _, _, _, h, _ => by simp [Own] at h
  | .lst _, .tup _, _, _, h, _ => by simp [Own] at h
  | .lst _, .dic _ _, _, _, h, _ => by simp [Own] at h
  | .lst _, .ins _ _, _, _, h, _ => by simp [Own] at h
  | .lst _, .lck _, _, _, h, _ => by simp [Own] at h
  | .dic, .non, _, _, h, _ => by simp [Own] at h
  | .dic, .bl _, _, _, h, _ => by simp [Own] at h
  | .dic, .int _, _, _, h, _ => by simp [Own] at h
  | .dic, .str _, _, _, h, _ => by simp [Own] at h
  | .dic, .tup _, _, _, h, _ => by simp [Own] at h
  | .dic, .lst _, _, _, h, _ => by simp [Own] at h
  | .dic, .ins _ _, _, _, h, _ => by simp [Own] at h
  | .dic, .lck _, _, _, h, _ => by simp [Own] at h
  | .ins _, .non, _, _, h, _ => by simp [Own] at h
  | .ins _, .bl _, _, _, h, _ => by simp [Own] at h
  | .ins _, .int _, _, _, h, _ => by simp [Own] at h
  | .ins _, .str _, _, _, h, _ => by simp [Own] at h
  | .ins _, .tup _, _, _, h, _ => by simp [Own] at h
  | .ins _, .lst _, _, _, h, _ => by simp [Own] at h
  | .ins _, .dic _ _, _, _, h, _ => by simp [Own] at h
  | .ins _, .lck _, _, _, h, _ => by simp [Own] at h
theorem OwnL.frame (s : Same F F') : ∀ {o : OT} {ds : List D} {vs : List V} {A : List Addr}, OwnL K F H o ds vs A → (∀ a ∈ A, H' a = H a) → OwnL K F' H' o ds vs A
  | _, [], _, _, h, _ => by simpa only [OwnL] using h
  | o, d :: ds, _, _, h, k => by
    simp only [OwnL] at h ⊢
    obtain ⟨v, r, A1, A2, e, h1, h2, rfl⟩ := h
    exact ⟨v, r, A1, A2, e, Own.frame s h1 fun b hb => k b (by simp [hb]), OwnL.frame s h2 fun b hb => k b (by simp [hb]), rfl⟩
theorem OwnS.frame (s : Same F F') : ∀ {os : List OT} {ds : List D} {vs : List V} {A : List Addr}, OwnS K F H os ds vs A → (∀ a ∈ A, H' a = H a) → OwnS K F' H' os ds vs A
  | [], [], _, _, h, _ => by simpa only [OwnS] using h
  | o :: os, d :: ds, _, _, h, k => by
    simp only [OwnS] at h ⊢
    obtain ⟨v, r, A1, A2, e, h1, h2, rfl⟩ := h
    exact ⟨v, r, A1, A2, e, Own.frame s h1 fun b hb => k b (by simp [hb]), OwnS.frame s h2 fun b hb => k b (by simp [hb]), rfl⟩
  | [], _ :: _, _, _, h, _ => by simp [OwnS] at h
  | _ :: _, [], _, _, h, _ => by simp [OwnS] at h
end
end Ev

set_option maxHeartbeats 4000000
/-! Ev, part B: growth, the frame of names. -/
namespace Ev
open PySem PySem.Spec PyProof.Rows L2
variable {K : PySem.W.Frag} {F G H F' G' H' F0 : Hp}
/-! ### what stands, stands -/
mutual
theorem Own.there : ∀ {o : OT} {d : D} {v : V} {A : List Addr}, Own K F H o d v A → ∀ a ∈ A, H a ≠ none
  | .fz, d, v, A, h, a, ha => by
    simp only [Own] at h
    rw [h.1] at ha; cases ha
  | .bw, d, v, A, h, a, ha => by
    simp only [Own] at h
    exact h.there a ha
  | .lst o, .lst ds, v, A, h, b, hb => by
    simp only [Own] at h
    obtain ⟨a, vs, B, e, h1, h2, rfl⟩ := h
    rcases List.mem_cons.mp hb with rfl | hb
    · rw [h1]; simp
    · exact OwnL.there h2 b hb
  | .dic, .dic ks ds, v, A, h, b, hb => by
    simp only [Own] at h
    obtain ⟨a, kvs, e, h1, h2, h3, rfl⟩ := h
    rcases List.mem_cons.mp hb with rfl | hb
    · rw [h1]; simp
    · cases hb
  | .ins os, .ins c ds, v, A, h, b, hb => by
    simp only [Own] at h
    obtain ⟨a, dx, vs, B, e, h1, h2, h3, rfl⟩ := h
    rcases List.mem_cons.mp hb with rfl | hb
    · rw [h1]; simp
    · exact OwnS.there h3 b hb
  | .lst _, .non, _, _, h, _, _ => by simp [Own] at h
  | .lst _, .bl _, _, _, h, _, _ => by simp [Own] at h
  | .lst _, .int _, _, _, h, _, _ => by simp [Own] at h
  | .lst _, .str _, _, _, h, _, _ => by simp [Own] at h
  | .lst _, .tup _, _, _, h, _, _ => by simp [Own] at h
  | .lst _, .dic _ _, _, _, h, _, _ => by simp [Own] at h
  | .lst _, .ins _ _, _, _, h, _, _ => by simp [Own] at h
  | .lst _, .lck _, _, _, h, _, _ => by simp [Own] at h
  | .dic, .non, _, _, h, _, _ => by simp [Own] at h
  | .dic, .bl _, _, _, h, _, _ => by simp [Own] at h
  | .dic, .int _, _, _, h, _, _ => by simp [Own] at h
  | .dic, .str _, _, _, h, _, _ => by simp [Own] at h
  | .dic, .tup _, _, _, h, _, _ => by simp [Own] at h
  | .dic, .lst _, _, _, h, _, _ => by simp [Own] at h
  | .dic, .ins _ _, _, _, h, _, _ => by simp [Own] at h
  | .dic, .lck _, _, _, h, _, _ => by simp [Own] at h
  | .ins _, .non, _, _, h, _, _ => by simp [Own] at h
  | .ins _, .bl _, _, _, h, _, _ => by simp [Own] at h
  | .ins _, .int _, _, _, h, _, _ => by simp [Own] at h
  | .ins _, .str _, _, _, h, _, _ => by simp [Own] at h
  | .ins _, .tup _, _, _, h, _, _ => by simp [Own] at h
  | .ins _, .lst _, _, _, h, _, _ => by simp [Own] at h
  | .ins _, .dic _ _, _, _, h, _, _ => by simp [Own] at h
  | .ins _, .lck _, _, _, h, _, _ => by simp [Own] at h
theorem OwnL.there : ∀ {o : OT} {ds : List D} {vs : List V} {A : List Addr}, OwnL K F H o ds vs A → ∀ a ∈ A, H a ≠ none
  | _, [], _, _, h, a, ha => by
    simp only [OwnL] at h
    rw [h.2] at ha; cases ha
  | o, d :: ds, _, _, h, a, ha => by
    simp only [OwnL] at h
    obtain ⟨v, r, A1, A2, e, h1, h2, rfl⟩ := h
    rcases List.mem_append.mp ha with ha | ha
    · exact Own.there h1 a ha
    · exact OwnL.there h2 a ha
theorem OwnS.there : ∀ {os : List OT} {ds : List D} {vs : List V} {A : List Addr}, OwnS K F H os ds vs A → ∀ a ∈ A, H a ≠ none
  | [], [], _, _, h, a, ha => by
    simp only [OwnS] at h
    rw [h.2] at ha; cases ha
  | o :: os, d :: ds, _, _, h, a, ha => by
    simp only [OwnS] at h
    obtain ⟨v, r, A1, A2, e, h1, h2, rfl⟩ := h
    rcases List.mem_append.mp ha with ha | ha
    · exact Own.there h1 a ha
    · exact OwnS.there h2 a ha
  | [], _ :: _, _, _, h, _, _ => by simp [OwnS] at h
  | _ :: _, [], _, _, h, _, _ => by simp [OwnS] at h
end
mutual
/-- what is owned may be frozen -/
theorem Own.freeze (s : Same F F') : ∀ {o : OT} {d : D} {v : V} {A : List Addr}, Own K F H o d v A → (∀ a ∈ A, F' a = H a) → Is K F' d v
  | .fz, d, v, A, h, _ => by
    simp only [Own] at h
    exact h.2.mono s
  | .bw, d, v, A, h, k => by
    simp only [Own] at h
    exact h.freeze s k
  | .lst o, .lst ds, v, A, h, k => by
    simp only [Own] at h
    obtain ⟨a, vs, B, e, h1, h2, rfl⟩ := h
    simp only [Is]
    exact ⟨a, vs, e, (k a (by simp)).trans h1, OwnL.freeze s h2 fun b hb => k b (by simp [hb])⟩
  | .dic, .dic ks ds, v, A, h, k => by
    simp only [Own] at h
    obtain ⟨a, kvs, e, h1, h2, h3, rfl⟩ := h
    simp only [Is]
    exact ⟨a, kvs, e, (k a (by simp)).trans h1, h2, h3.mono s⟩
  | .ins os, .ins c ds, v, A, h, k => by
    simp only [Own] at h
    obtain ⟨a, dx, vs, B, e, h1, h2, h3, rfl⟩ := h
    simp only [Is]
    exact ⟨a, dx, vs, e, (k a (by simp)).trans h1, h2, OwnS.freeze s h3 fun b hb => k b (by simp [hb])⟩
  | .lst _, .non, _, _, h, _ => by simp [Own] at h
  | .lst _, .bl _, _, _, h, _ => by simp [Own] at h
  | .lst _, .int _, _, _, h, _ => by simp [Own] at h
  | .lst _, .str _, _, _, h, _ => by simp [Own] at h
  | .lst _, .tup _, _, _, h, _ => by simp [Own] at h
  | .lst _, .dic _ _, _, _, h, _ => by simp [Own] at h
  | .lst _, .ins _ _, _, _, h, _ => by simp [Own] at h
  | .lst _, .lck _, _, _, h, _ => by simp [Own] at h
  | .dic, .non, _, _, h, _ => by simp [Own] at h
  | .dic, .bl _, _, _, h, _ => by simp [Own] at h
  | .dic, .int _, _, _, h, _ => by simp [Own] at h
  | .dic, .str _, _, _, h, _ => by simp [Own] at h
  | .dic, .tup _, _, _, h, _ => by simp [Own] at h
  | .dic, .lst _, _, _, h, _ => by simp [Own] at h
  | .dic, .ins _ _, _, _, h, _ => by simp [Own] at h
  | .dic, .lck _, _, _, h, _ => by simp [Own] at h
  | .ins _, .non, _, _, h, _ => by simp [Own] at h
  | .ins _, .bl _, _, _, h, _ => by simp [Own] at h
  | .ins _, .int _, _, _, h, _ => by simp [Own] at h
  | .ins _, .str _, _, _, h, _ => by simp [Own] at h
  | .ins _, .tup _, _, _, h, _ => by simp [Own] at h
  | .ins _, .lst _, _, _, h, _ => by simp [Own] at h
  | .ins _, .dic _ _, _, _, h, _ => by simp [Own] at h
  | .ins _, .lck _, _, _, h, _ => by simp [Own] at h
theorem OwnL.freeze (s : Same F F') : ∀ {o : OT} {ds : List D} {vs : List V} {A : List Addr}, OwnL K F H o ds vs A → (∀ a ∈ A, F' a = H a) → IsL K F' ds vs
  | _, [], _, _, h, _ => by
    simp only [OwnL] at h
    rw [h.1]; rfl
  | o, d :: ds, _, _, h, k => by
    simp only [OwnL] at h
    obtain ⟨v, r, A1, A2, rfl, h1, h2, rfl⟩ := h
    exact ⟨v, r, rfl, Own.freeze s h1 fun b hb => k b (by simp [hb]), OwnL.freeze s h2 fun b hb => k b (by simp [hb])⟩
theorem OwnS.freeze (s : Same F F') : ∀ {os : List OT} {ds : List D} {vs : List V} {A : List Addr}, OwnS K F H os ds vs A → (∀ a ∈ A, F' a = H a) → IsL K F' ds vs
  | [], [], _, _, h, _ => by
    simp only [OwnS] at h
    rw [h.1]; rfl
  | o :: os, d :: ds, _, _, h, k => by
    simp only [OwnS] at h
    obtain ⟨v, r, A1, A2, rfl, h1, h2, rfl⟩ := h
    exact ⟨v, r, rfl, Own.freeze s h1 fun b hb => k b (by simp [hb]), OwnS.freeze s h2 fun b hb => k b (by simp [hb])⟩
  | [], _ :: _, _, _, h, _ => by simp [OwnS] at h
  | _ :: _, [], _, _, h, _ => by simp [OwnS] at h
end
/-- seen now -/
theorem Own.see {o : OT} {d : D} {v : V} {A : List Addr} (h : Own K F H o d v A) (s : Same F H) : Is K H d v := h.freeze s fun _ _ => rfl
theorem Own.of_is {d : D} {v : V} (h : Is K F d v) : Own K F H .fz d v [] := by simp only [Own]; exact ⟨trivial, h⟩
theorem Own.is {d : D} {v : V} {A : List Addr} (h : Own K F H .fz d v A) : Is K F d v := by simp only [Own] at h; exact h.2

/-! ### growth -/
structure Up (F H F' H' : Hp) : Prop where
  ff : Same F F'
  hh : Same H H'
  fr : ∀ a, F a = none → H a ≠ none → F' a = none
  fh : Same F' H'
theorem Same.some {H H' : Hp} (s : Same H H') {a : Addr} (h : H a ≠ none) : H' a ≠ none := by
  cases e : H a with
  | none => exact absurd e h
  | some o => rw [s a o e]; simp
theorem Same.eq {H H' : Hp} (s : Same H H') {a : Addr} (h : H a ≠ none) : H' a = H a := by
  cases e : H a with
  | none => exact absurd e h
  | some o => exact s a o e
theorem Up.refl (h : Same F H) : Up F H F H := ⟨Same.refl _, Same.refl _, fun _ e _ => e, h⟩
theorem Up.trans {F1 H1 F2 H2 : Hp} (a : Up F H F1 H1) (b : Up F1 H1 F2 H2) : Up F H F2 H2 :=
  ⟨a.ff.trans b.ff, a.hh.trans b.hh, fun x e h => b.fr x (a.fr x e h) (Same.some a.hh h), b.fh⟩
theorem Own.up {o : OT} {d : D} {v : V} {A : List Addr} (h : Own K F H o d v A) (u : Up F H F' H') : Own K F' H' o d v A :=
  h.frame u.ff fun a ha => Same.eq u.hh (h.there a ha)
theorem Is.up {d : D} {v : V} (h : Is K F d v) (u : Up F H F' H') : Is K F' d v := h.mono u.ff
/-- a new object, tracked; not frozen -/
theorem Up.new (s : Same F H) {p : Addr} {o : HO} (hp : H p = none) : Up F H F (upd H p o) :=
  ⟨Same.refl _, fun b o e => by rw [upd_ne (ne_of_none e hp)]; exact e, fun _ e _ => e, fun b o e => by rw [upd_ne (ne_of_none (s _ _ e) hp)]; exact s _ _ e⟩
/-- .. frozen at once -/
theorem Up.newF (s : Same F H) {p : Addr} {o : HO} (hp : H p = none) : Up F H (upd F p o) (upd H p o) := by
  have fp : F p = none := by
    cases e : F p with
    | none => rfl
    | some u => rw [s _ _ e] at hp; cases hp
  refine ⟨fun b u e => ?_, fun b u e => ?_, fun a e h => ?_, fun b u e => ?_⟩
  · rw [upd_ne (ne_of_none e fp)]; exact e
  · rw [upd_ne (ne_of_none e hp)]; exact e
  · have : a ≠ p := fun z => h (z ▸ hp)
    rw [upd_ne this]; exact e
  · by_cases hb : b = p
    · subst hb; rw [upd_same] at e ⊢; exact e
    · rw [upd_ne hb] at e ⊢; exact s _ _ e
/-- to freeze at A -/
noncomputable def frz (F H : Hp) (A : List Addr) : Hp := by
  classical
  exact fun a => if a ∈ A then H a else F a
theorem frz_in {A : List Addr} {a : Addr} (h : a ∈ A) : frz F H A a = H a := by
  classical
  unfold frz; rw [if_pos h]
theorem frz_out {A : List Addr} {a : Addr} (h : a ∉ A) : frz F H A a = F a := by
  classical
  unfold frz; rw [if_neg h]
theorem frz_ff (s : Same F H) {A : List Addr} : Same F (frz F H A) := fun b u e => by
  by_cases hb : b ∈ A
  · rw [frz_in hb]; exact s _ _ e
  · rw [frz_out hb]; exact e
theorem frz_fh (s : Same F H) {A : List Addr} : Same (frz F H A) H := fun b u e => by
  by_cases hb : b ∈ A
  · rw [frz_in hb] at e; exact e
  · rw [frz_out hb] at e; exact s _ _ e
/-- what was made since (F1, H1) is frozen -/
theorem Up.freeze {F1 H1 : Hp} (u : Up F1 H1 F H) {A : List Addr} (n : ∀ a ∈ A, H1 a = none) : Up F1 H1 (frz F H A) H :=
  ⟨u.ff.trans (frz_ff u.fh), u.hh, fun a e h => by
    rw [frz_out fun ha => h (n a ha)]; exact u.fr a e h, frz_fh u.fh⟩

/-! ### the names of a body -/
inductive Kd where
  | ve (o : OT) | ow (o : OT)
def Kd.ot : Kd → OT
  | .ve o => o
  | .ow o => o
/-- a slot: k its kind, d its datum -/
def SlotOk (K : PySem.W.Frag) (F G H : Hp) (k : Kd) (d : D) (v : V) (A : List Addr) : Prop := match k with
  | .ve o => ∃ B, Own K F G o d v B
  | .ow o => Own K F H o d v A
structure EnvOk (K : PySem.W.Frag) (Ks : List Kd) (F0 G F H : Hp) (σ : L2.St) (δ : List (Option D)) : Prop where
  ls : σ.length = Ks.length
  ld : δ.length = Ks.length
  gh : Same G H
  f0 : Same F0 F
  fh : Same F H
  fr : ∀ a, F0 a = none → G a ≠ none → F a = none
  sl : ∃ As : Nat → List Addr, (∀ i k d, Ks[i]? = some k → δ[i]? = some (some d) → ∃ v, σ[i]? = some (some v) ∧ SlotOk K F G H k d v (As i)) ∧ (∀ i, (As i).Nodup) ∧
    (∀ i j a, a ∈ As i → a ∈ As j → i = j) ∧ ∀ i a, a ∈ As i → F a = none ∧ G a = none ∧ H a ≠ none
variable {Ks : List Kd} {σ : L2.St} {δ : List (Option D)}
theorem EnvOk.up (E : EnvOk K Ks F0 G F H σ δ) (u : Up F H F' H') : EnvOk K Ks F0 G F' H' σ δ := by
  obtain ⟨As, h1, h2, h3, h4⟩ := E.sl
  refine ⟨E.ls, E.ld, E.gh.trans u.hh, E.f0.trans u.ff, u.fh, fun a e h => u.fr a (E.fr a e h) (Same.some E.gh h), As, fun i k d e1 e2 => ?_, h2, h3, fun i a ha => ?_⟩
  · obtain ⟨v, e3, s⟩ := h1 i k d e1 e2
    refine ⟨v, e3, ?_⟩
    cases k with
    | ve o =>
      obtain ⟨B, s⟩ := s
      exact ⟨B, s.frame u.ff fun _ _ => rfl⟩
    | ow o => exact Own.up (show Own K F H o d v (As i) from s) u
  · obtain ⟨x1, x2, x3⟩ := h4 i a ha
    exact ⟨u.fr a x1 x3, x2, Same.some u.hh x3⟩
/-- a name is read -/
theorem EnvOk.var (E : EnvOk K Ks F0 G F H σ δ) {i : Nat} {k : Kd} {d : D} (hk : Ks[i]? = some k) (hd : δ[i]? = some (some d)) : ∃ v, σ[i]? = some (some v) ∧ ∃ A, Own K F H k.ot d v A := by
  obtain ⟨As, h1, h2, h3, h4⟩ := E.sl
  obtain ⟨v, e, s⟩ := h1 i k d hk hd
  refine ⟨v, e, ?_⟩
  cases k with
  | ve o =>
    obtain ⟨B, s⟩ := s
    exact ⟨B, s.frame (Same.refl _) fun a ha => Same.eq E.gh (s.there a ha)⟩
  | ow o => exact ⟨_, s⟩
theorem getElem?_set_or {α : Type} {l : List α} {i j : Nat} {x y : α} (h : (l.set i x)[j]? = some y) : (j = i ∧ y = x) ∨ (j ≠ i ∧ l[j]? = some y) := by
  by_cases e : j = i
  · subst e
    by_cases hl : j < l.length
    · rw [List.getElem?_set_self hl] at h
      exact .inl ⟨rfl, (Option.some.inj h).symm⟩
    · rw [List.getElem?_eq_none (by rw [List.length_set]; omega)] at h; cases h
  · rw [List.getElem?_set_ne (Ne.symm e)] at h
    exact .inr ⟨e, h⟩
/-- a name that is only read gets a value -/
theorem EnvOk.setVe (E : EnvOk K Ks F0 G F H σ δ) {i : Nat} {d : D} {v : V} (hk : Ks[i]? = some (.ve .fz)) (h : Is K F d v) : EnvOk K Ks F0 G F H (σ.set i (some v)) (δ.set i (some d)) := by
  obtain ⟨As, h1, h2, h3, h4⟩ := E.sl
  have hi : i < Ks.length := (List.getElem?_eq_some_iff.mp hk).1
  refine ⟨by rw [List.length_set]; exact E.ls, by rw [List.length_set]; exact E.ld, E.gh, E.f0, E.fh, E.fr, As, fun j k e e1 e2 => ?_, h2, h3, h4⟩
  rcases getElem?_set_or e2 with ⟨rfl, e3⟩ | ⟨ne, e3⟩
  · cases e3
    rw [hk] at e1; cases e1
    exact ⟨v, List.getElem?_set_self (by rw [E.ls]; exact hi), [], Own.of_is h⟩
  · obtain ⟨w, e4, s⟩ := h1 j k e e1 e3
    exact ⟨w, by rw [List.getElem?_set_ne (Ne.symm ne)]; exact e4, s⟩
/-- a name loses its value -/
theorem EnvOk.unset (E : EnvOk K Ks F0 G F H σ δ) (i : Nat) : EnvOk K Ks F0 G F H σ (δ.set i none) := by
  obtain ⟨As, h1, h2, h3, h4⟩ := E.sl
  refine ⟨E.ls, by rw [List.length_set]; exact E.ld, E.gh, E.f0, E.fh, E.fr, As, fun j k e e1 e2 => ?_, h2, h3, h4⟩
  rcases getElem?_set_or e2 with ⟨rfl, e3⟩ | ⟨ne, e3⟩
  · cases e3
  · exact h1 j k e e1 e3
/-- .. whatever stands in the slot -/
theorem EnvOk.unsetS (E : EnvOk K Ks F0 G F H σ δ) (i : Nat) (x : Option V) : EnvOk K Ks F0 G F H (σ.set i x) (δ.set i none) := by
  obtain ⟨As, h1, h2, h3, h4⟩ := E.sl
  refine ⟨by rw [List.length_set]; exact E.ls, by rw [List.length_set]; exact E.ld, E.gh, E.f0, E.fh, E.fr, As, fun j k e e1 e2 => ?_, h2, h3, h4⟩
  rcases getElem?_set_or e2 with ⟨rfl, e3⟩ | ⟨ne, e3⟩
  · cases e3
  · obtain ⟨w, e4, s⟩ := h1 j k e e1 e3
    exact ⟨w, by rw [List.getElem?_set_ne (Ne.symm ne)]; exact e4, s⟩
/-- a name that may be changed gets a value made since (F1, H1) -/
theorem EnvOk.setOw {F1 H1 : Hp} (E1 : EnvOk K Ks F0 G F1 H1 σ δ) (u : Up F1 H1 F H) {i : Nat} {o : OT} {d : D} {v : V} {A : List Addr} (hk : Ks[i]? = some (.ow o)) (h : Own K F H o d v A) (hA : A.Nodup) (n : ∀ a ∈ A, H1 a = none ∧ F a = none) :
    EnvOk K Ks F0 G F H (σ.set i (some v)) (δ.set i (some d)) := by
  have E := E1.up u
  obtain ⟨As1, _, _, _, _⟩ := E1.sl
  obtain ⟨As, h1, h2, h3, h4⟩ := E1.sl
  have hi : i < Ks.length := (List.getElem?_eq_some_iff.mp hk).1
  refine ⟨by rw [List.length_set]; exact E.ls, by rw [List.length_set]; exact E.ld, E.gh, E.f0, E.fh, E.fr, fun j => if j = i then A else As j, fun j k e e1 e2 => ?_, fun j => ?_, fun j l a ha hb => ?_, fun j a ha => ?_⟩
  · rcases getElem?_set_or e2 with ⟨rfl, e3⟩ | ⟨ne, e3⟩
    · cases e3
      rw [hk] at e1; cases e1
      refine ⟨v, List.getElem?_set_self (by rw [E.ls]; exact hi), ?_⟩
      show Own K F H o d v (if j = j then A else As j)
      rw [if_pos rfl]; exact h
    · obtain ⟨w, e4, s⟩ := h1 j k e e1 e3
      refine ⟨w, by rw [List.getElem?_set_ne (Ne.symm ne)]; exact e4, ?_⟩
      cases k with
      | ve o =>
        obtain ⟨B, s⟩ := s
        exact ⟨B, s.frame u.ff fun _ _ => rfl⟩
      | ow o =>
        show Own K F H o e w (if j = i then A else As j)
        rw [if_neg ne]
        exact Own.up (show Own K F1 H1 o e w (As j) from s) u
  · show (if j = i then A else As j).Nodup
    split
    · exact hA
    · exact h2 j
  · have key : ∀ l a, a ∈ As l → a ∈ A → False := fun l a ha hb => (h4 l a ha).2.2 (n a hb).1
    have ha' : a ∈ (if j = i then A else As j) := ha
    have hb' : a ∈ (if l = i then A else As l) := hb
    split at ha' <;> split at hb'
    · rename_i e1 e2; rw [e1, e2]
    · exact (key l a hb' ha').elim
    · exact (key j a ha' hb').elim
    · exact h3 j l a ha' hb'
  · have ha' : a ∈ (if j = i then A else As j) := ha
    split at ha'
    · refine ⟨(n a ha').2, ?_, h.there a ha'⟩
      cases q : G a with
      | none => rfl
      | some o => exact absurd (E1.gh a o q) (by rw [(n a ha').1]; simp)
    · obtain ⟨x1, x2, x3⟩ := h4 j a ha'
      exact ⟨u.fr a x1 x3, x2, Same.some u.hh x3⟩
/-- what a changeable name holds is changed: H' differs from H at its objects alone (and by new ones) -/
theorem EnvOk.put (E : EnvOk K Ks F0 G F H σ δ) {i : Nat} {o : OT} {d : D} {v : V} {d' : D} (hk : Ks[i]? = some (.ow o)) (hd : δ[i]? = some (some d))
    (hv : σ[i]? = some (some v)) {H' : Hp} {F' : Hp}
    (step : ∀ A, Own K F H o d v A → A.Nodup → (∀ a ∈ A, F a = none) → ∃ A', Own K F' H' o d' v A' ∧ A'.Nodup ∧ Same F F' ∧ Same F' H' ∧ (∀ a, F a = none → H a ≠ none → F' a = none) ∧ (∀ a ∈ A', a ∈ A ∨ H a = none) ∧ (∀ a ∈ A', F' a = none) ∧ ∀ a, a ∉ A → H a ≠ none → H' a = H a) :
    EnvOk K Ks F0 G F' H' σ (δ.set i (some d')) := by
  obtain ⟨As, h1, h2, h3, h4⟩ := E.sl
  have hi : i < Ks.length := (List.getElem?_eq_some_iff.mp hk).1
  obtain ⟨v', e, s⟩ := h1 i _ d hk hd
  rw [hv] at e; cases e
  obtain ⟨A', o1, o2, ff, fh, fr, inA, nf, keep⟩ := step (As i) s (h2 i) fun a ha => (h4 i a ha).1
  have keepG : ∀ a, G a ≠ none → H' a = G a := fun a g => by
    rw [keep a (fun ha => g (h4 i a ha).2.1) (Same.some E.gh g)]; exact Same.eq E.gh g
  refine ⟨E.ls, by rw [List.length_set]; exact E.ld, fun a u g => ?_, E.f0.trans ff, fh, fun a e g => fr a (E.fr a e g) (Same.some E.gh g), fun j => if j = i then A' else As j, fun j k e e1 e2 => ?_, fun j => ?_, fun j l a ha hb => ?_, fun j a ha => ?_⟩
  · rw [keepG a (by rw [g]; simp)]; exact g
  · rcases getElem?_set_or e2 with ⟨rfl, e3⟩ | ⟨ne, e3⟩
    · cases e3
      rw [hk] at e1; cases e1
      refine ⟨v, hv, ?_⟩
      show Own K F' H' o d' v (if j = j then A' else As j)
      rw [if_pos rfl]; exact o1
    · obtain ⟨w, e4, s⟩ := h1 j k e e1 e3
      refine ⟨w, e4, ?_⟩
      cases k with
      | ve o =>
        obtain ⟨B, s⟩ := s
        exact ⟨B, s.frame ff fun _ _ => rfl⟩
      | ow o =>
        show Own K F' H' o e w (if j = i then A' else As j)
        rw [if_neg ne]
        exact Own.frame ff (show Own K F H o e w (As j) from s) fun a ha => keep a (fun hb => ne (h3 j i a ha hb)) (h4 j a ha).2.2
  · show (if j = i then A' else As j).Nodup
    split
    · exact o2
    · exact h2 j
  · have key : ∀ l a, l ≠ i → a ∈ As l → a ∈ A' → False := fun l a ne ha hb => by
      rcases inA a hb with z | z
      · exact ne (h3 l i a ha z)
      · exact (h4 l a ha).2.2 z
    have ha' : a ∈ (if j = i then A' else As j) := ha
    have hb' : a ∈ (if l = i then A' else As l) := hb
    by_cases e1 : j = i <;> by_cases e2 : l = i
    · rw [e1, e2]
    · rw [if_pos e1] at ha'; rw [if_neg e2] at hb'; exact (key l a e2 hb' ha').elim
    · rw [if_neg e1] at ha'; rw [if_pos e2] at hb'; exact (key j a e1 ha' hb').elim
    · rw [if_neg e1] at ha'; rw [if_neg e2] at hb'; exact h3 j l a ha' hb'
  · have ha' : a ∈ (if j = i then A' else As j) := ha
    by_cases e1 : j = i
    · rw [if_pos e1] at ha'
      refine ⟨nf a ha', ?_, o1.there a ha'⟩
      rcases inA a ha' with z | z
      · exact (h4 i a z).2.1
      · cases q : G a with
        | none => rfl
        | some u => exact absurd (E.gh a u q) (by rw [z]; simp)
    · rw [if_neg e1] at ha'
      obtain ⟨x1, x2, x3⟩ := h4 j a ha'
      refine ⟨fr a x1 x3, x2, ?_⟩
      rw [keep a (fun hb => e1 (h3 j i a ha' hb)) x3]; exact x3
end Ev

set_option maxHeartbeats 4000000
/-! Ev, part C: what an expression is worth (on plain data), and that it is so. -/
namespace Ev
open PySem PySem.Spec PyProof.Rows L2
abbrev Env := List (Option D)
/-- an error: its class (a place in excT), its fields -/
structure Xd where
  c : Nat
  args : List D
inductive R where
  | ok (d : D) | ex (x : Xd)
def excT : Nat → Cl
  | 0 => ⟨"LineError", ["number"]⟩ | 1 => ⟨"BadForm", ["number"]⟩ | 2 => ⟨"Misplaced", ["number"]⟩ | 3 => ⟨"Duplicate", ["number"]⟩ | 4 => ⟨"Unknown", ["number"]⟩
  | 5 => ⟨"NotNested", ["number"]⟩ | 6 => ⟨"TooMany", ["number"]⟩ | 7 => ⟨"TooLong", ["number"]⟩ | 8 => ⟨"NoName", ["name"]⟩ | 9 => ⟨"Repeated", ["name"]⟩
  | 10 => ⟨"Overfull", []⟩ | 11 => ⟨"WrongMove", ["move"]⟩ | 12 => ⟨"BadRun", ["at"]⟩ | 13 => ⟨"NoThread", ["thread"]⟩ | 14 => ⟨"MustWait", ["lock", "blocker"]⟩
  | 15 => ⟨"Refused", ["at"]⟩ | 16 => ⟨"Deadlocked", ["cycle"]⟩ | 17 => ⟨"NoRequest", ["request"]⟩ | 18 => ⟨"NoContext", ["context"]⟩ | 19 => ⟨"NoRunCycle", []⟩
  | 20 => ⟨"Clash", ["cycle"]⟩ | 21 => ⟨"NoLockOrder", ["cycle"]⟩ | _ => ⟨"HeldError", []⟩
def XRep (K : PySem.W.Frag) (F H : Hp) (x : Xd) (cls : V) (dx : Option Addr) : Prop :=
  cls = .ref (He.ga K (excT x.c).name) ∧ match (excT x.c).fields with
    | [] => dx = none
    | f :: fs => ∃ p vs, dx = some p ∧ H p = some (.xd ((f :: fs).zip vs)) ∧ vs.length = (f :: fs).length ∧ IsL K F x.args vs
/-- what an expression hands on -/
inductive Ty where
  | vw (o : OT) | fr (o : OT)
def Post (K : PySem.W.Frag) (H F' H' : Hp) : Ty → D → V → Prop
  | .vw o, d, v => ∃ A, Own K F' H' o d v A
  | .fr o, d, v => ∃ A, Own K F' H' o d v A ∧ A.Nodup ∧ ∀ a ∈ A, H a = none ∧ F' a = none
/-- a body's fixed things -/
structure Cp where
  K : PySem.W.Frag
  Ks : List Kd
  F0 : Hp
  G : Hp
  W : WX
def Cp.E (c : Cp) (F H : Hp) (σ : L2.St) (δ : Env) : Prop := EnvOk c.K c.Ks c.F0 c.G F H σ δ
/-- what a wish about errors takes in -/
def Bad (c : Cp) (F H : Hp) (σ : L2.St) (x : Xd) : Prop := ∀ cls u dx F' H', RelV cls u → Up F H F' H' → XRep c.K F' H' x cls dx → c.W u dx σ H'
/-- what is wanted of an outcome -/
def Gv (c : Cp) (ty : Ty) (F H : Hp) (σ : L2.St) (Q : VK) : Option R → Prop
  | some (.ok d) => ∀ v F' H', Up F H F' H' → Post c.K H F' H' ty d v → Q v H'
  | some (.ex x) => Bad c F H σ x
  | none => False
def Gt (c : Cp) (F H : Hp) (σ : L2.St) (Q : Bool → Hp → Prop) : Option R → Prop
  | some (.ok (.bl b)) => ∀ F' H', Up F H F' H' → Q b H'
  | some (.ex x) => Bad c F H σ x
  | _ => False
def tV (c : Cp) (ty : Ty) (f : Env → Option R) : TE := fun σ H Q => ∃ F δ, c.E F H σ δ ∧ Gv c ty F H σ Q (f δ)
def tT (c : Cp) (f : Env → Option R) : TT := fun σ H Q => ∃ F δ, c.E F H σ δ ∧ Gt c F H σ Q (f δ)
inductive RL where
  | ok (ds : List D) | ex (x : Xd)
/-- each as its type asks -/
def ViewL (K : PySem.W.Frag) (F H : Hp) : List OT → List D → List V → Prop
  | [], [], vs => vs = []
  | o :: os, d :: ds, vs => ∃ v r, vs = v :: r ∧ (∃ A, Own K F H o d v A) ∧ ViewL K F H os ds r
  | _, _, _ => False
def Gl' (c : Cp) (os : List OT) (F H : Hp) (σ : L2.St) (Q : List V → Hp → Prop) : Option RL → Prop
  | some (.ok ds) => ∀ vs F' H', Up F H F' H' → ViewL c.K F' H' os ds vs → Q vs H'
  | some (.ex x) => Bad c F H σ x
  | none => False
def tL (c : Cp) (os : List OT) (f : Env → Option RL) : TA := fun σ H Q => ∃ F δ, c.E F H σ δ ∧ Gl' c os F H σ Q (f δ)
def bnd (r : Option R) (k : D → Option R) : Option R := match r with
  | some (.ok d) => k d
  | some (.ex x) => some (.ex x)
  | none => none
def bndL (r : Option RL) (k : List D → Option R) : Option R := match r with
  | some (.ok d) => k d
  | some (.ex x) => some (.ex x)
  | none => none
def okO : Option D → Option R
  | some d => some (.ok d)
  | none => none
def okB : Option Bool → Option R
  | some b => some (.ok (.bl b))
  | none => none
variable {X : Cx} {c : Cp} {F G H F' H' : Hp} {σ : L2.St} {δ : Env} {o : OT}
theorem PE.imp {e : Expr} {t t' : TE} (h : PE X e t) (i : ∀ σ H Q, t' σ H Q → t σ H Q) : PE X e t' := ⟨fun pins s σ H Q I q => h.run pins s σ H Q I (i σ H Q q)⟩
theorem PT.imp {e : Expr} {t t' : TT} (h : PT X e t) (i : ∀ σ H Q, t' σ H Q → t σ H Q) : PT X e t' := ⟨fun pins s σ H Q I q => h.run pins s σ H Q I (i σ H Q q)⟩
theorem PA.imp {es : List Expr} {t t' : TA} (h : PA X es t) (i : ∀ σ H Q, t' σ H Q → t σ H Q) : PA X es t' := ⟨fun pos pins s σ H Q I q => h.run pos pins s σ H Q I (i σ H Q q)⟩
theorem Cp.E.up (E : c.E F H σ δ) (u : Up F H F' H') : c.E F' H' σ δ := EnvOk.up E u
theorem Bad.up {x : Xd} (b : Bad c F H σ x) (u : Up F H F' H') : Bad c F' H' σ x := fun cls v dx F2 H2 r u2 h => b cls v dx F2 H2 r (u.trans u2) h
theorem ViewL.up (u : Up F H F' H') : ∀ {os : List OT} {ds : List D} {vs : List V}, ViewL c.K F H os ds vs → ViewL c.K F' H' os ds vs
  | [], [], _, h => h
  | o :: os, d :: ds, _, h => by
    simp only [ViewL] at h ⊢
    obtain ⟨v, r, e, ⟨A, h1⟩, h2⟩ := h
    exact ⟨v, r, e, ⟨A, h1.up u⟩, ViewL.up u h2⟩
  | [], _ :: _, _, h => by simp [ViewL] at h
  | _ :: _, [], _, h => by simp [ViewL] at h
/-! ### types -/
def coe : Ty → OT → Bool
  | .vw .fz, .fz => true
  | .fr _, .fz => true
  | .vw .fz, .bw => true
  | .vw .bw, .bw => true
  | .vw (.lst .fz), .bw => true
  | .vw .dic, .bw => true
  | .fr _, .bw => true
  | .vw .dic, .dic => true
  | .vw (.lst .fz), .lst .fz => true
  | _, _ => false
theorem OwnL.fz {K : PySem.W.Frag} : ∀ {ds : List D} {vs : List V} {B : List Addr}, OwnL K F H .fz ds vs B → B = [] ∧ IsL K F ds vs
  | [], vs, B, h => by simp only [OwnL] at h; exact ⟨h.2, h.1⟩
  | d :: ds, vs, B, h => by
    simp only [OwnL] at h
    obtain ⟨v, r, A1, A2, rfl, h1, h2, rfl⟩ := h
    obtain ⟨e1, e2⟩ := OwnL.fz h2
    simp only [Own] at h1
    exact ⟨by rw [h1.1, e1]; rfl, v, r, rfl, h1.2, e2⟩
theorem OwnL.of_fz {K : PySem.W.Frag} : ∀ {ds : List D} {vs : List V}, IsL K F ds vs → OwnL K F H .fz ds vs []
  | [], vs, h => by simp only [IsL] at h; simp only [OwnL]; exact ⟨h, trivial⟩
  | d :: ds, vs, h => by
    simp only [IsL] at h
    obtain ⟨v, r, rfl, h1, h2⟩ := h
    simp only [OwnL]
    exact ⟨v, r, [], [], rfl, Own.of_is h1, OwnL.of_fz h2, rfl⟩
theorem Own.toBw {K : PySem.W.Frag} {o : OT} {d : D} {v : V} {A : List Addr} (h : Own K F H o d v A) (e : o = .fz ∨ o = .bw ∨ o = .lst .fz ∨ o = .dic) : ∃ A, Own K F H .bw d v A := by
  rcases e with rfl | rfl | rfl | rfl
  · exact ⟨[], by simp only [Own]; exact .inl ⟨rfl, h.is⟩⟩
  · exact ⟨A, h⟩
  · cases d with
    | lst ds =>
      simp only [Own] at h
      obtain ⟨a, vs, B, e, h1, h2, rfl⟩ := h
      refine ⟨[a], ?_⟩
      simp only [Own]
      exact .inr (.inl ⟨ds, a, vs, rfl, e, h1, h2.fz.2, rfl⟩)
    | _ => simp [Own] at h
  · cases d with
    | dic ks ds =>
      simp only [Own] at h
      obtain ⟨a, kvs, e, h1, h2, h3, rfl⟩ := h
      refine ⟨[a], ?_⟩
      simp only [Own]
      exact .inr (.inr ⟨ks, ds, a, kvs, rfl, e, h1, h2, h3, rfl⟩)
    | _ => simp [Own] at h
/-- behind an expression its value is taken as o asks (what is new may be frozen) -/
theorem Post.coe {F1 H1 : Hp} {ty : Ty} {o : OT} {d : D} {v : V} (h : Post c.K H F1 H1 ty d v) (u : Up F H F1 H1) (e : coe ty o = true) : ∃ F2, Up F H F2 H1 ∧ Same F1 F2 ∧ ∃ A, Own c.K F2 H1 o d v A := by
  have fz : ∀ {o'}, ty = .fr o' → ∃ F2, Up F H F2 H1 ∧ Same F1 F2 ∧ ∃ A, Own c.K F2 H1 .fz d v A := fun {o'} e => by
    subst e
    obtain ⟨A, h1, h2, h3⟩ := h
    refine ⟨frz F1 H1 A, u.freeze fun a ha => (h3 a ha).1, frz_ff u.fh, [], Own.of_is (h1.freeze (frz_ff u.fh) fun a ha => frz_in ha)⟩
  cases ty with
  | fr o' =>
    cases o with
    | fz => exact fz rfl
    | bw =>
      obtain ⟨F2, u2, s2, A, h2⟩ := fz rfl
      obtain ⟨B, h3⟩ := h2.toBw (.inl rfl)
      exact ⟨F2, u2, s2, B, h3⟩
    | _ => simp [Ev.coe] at e
  | vw o' =>
    obtain ⟨A, h⟩ := h
    have tb : (o' = .fz ∨ o' = .bw ∨ o' = .lst .fz ∨ o' = .dic) → ∃ F2, Up F H F2 H1 ∧ Same F1 F2 ∧ ∃ A, Own c.K F2 H1 .bw d v A := fun z => by
      obtain ⟨B, h3⟩ := h.toBw z
      exact ⟨F1, u, Same.refl _, B, h3⟩
    have sm : o' = o → ∃ F2, Up F H F2 H1 ∧ Same F1 F2 ∧ ∃ A, Own c.K F2 H1 o d v A := fun z => by
      subst z; exact ⟨F1, u, Same.refl _, A, h⟩
    cases o' with
    | fz =>
      cases o with
      | fz => exact sm rfl
      | bw => exact tb (.inl rfl)
      | _ => simp [Ev.coe] at e
    | bw =>
      cases o with
      | bw => exact sm rfl
      | _ => simp [Ev.coe] at e
    | dic =>
      cases o with
      | bw => exact tb (.inr (.inr (.inr rfl)))
      | dic => exact sm rfl
      | _ => simp [Ev.coe] at e
    | ins os => simp [Ev.coe] at e
    | lst o2 =>
      cases o2 with
      | fz =>
        cases o with
        | bw => exact tb (.inr (.inr (.inl rfl)))
        | lst o3 =>
          cases o3 with
          | fz => exact sm rfl
          | _ => simp [Ev.coe] at e
        | _ => simp [Ev.coe] at e
      | _ => simp [Ev.coe] at e
/-! ### going on -/
theorem Post.up {H1 F' H' : Hp} {ty : Ty} {d : D} {v : V} (s : Same H H1) (p : Post c.K H1 F' H' ty d v) : Post c.K H F' H' ty d v := by
  cases ty with
  | vw o => exact p
  | fr o =>
    obtain ⟨A, h1, h2, h3⟩ := p
    exact ⟨A, h1, h2, fun a ha => ⟨s.free (h3 a ha).1, (h3 a ha).2⟩⟩
theorem Gv.up {ty : Ty} {Q : VK} {r : Option R} (g : Gv c ty F H σ Q r) (u : Up F H F' H') : Gv c ty F' H' σ Q r := by
  cases r with
  | none => exact g
  | some r =>
    cases r with
    | ok d => exact fun v F2 H2 u2 p => g v F2 H2 (u.trans u2) (p.up u.hh)
    | ex x => exact Bad.up g u
theorem Gt.up {Q : Bool → Hp → Prop} {r : Option R} (g : Gt c F H σ Q r) (u : Up F H F' H') : Gt c F' H' σ Q r := by
  cases r with
  | none => exact g
  | some r =>
    cases r with
    | ok d =>
      cases d with
      | bl b => exact fun F2 H2 u2 => g F2 H2 (u.trans u2)
      | _ => exact g
    | ex x => exact Bad.up g u
/-- an expression ahead of the rest k; Gd: what is wanted in the end (a Gv, Gt, ..) -/
theorem tV.go {ta : Ty} {oa : OT} {fa : Env → Option R} {Q1 : VK} {Gd : Hp → Hp → Option R → Prop} {k : D → Option R} (co : coe ta oa = true) (E : c.E F H σ δ)
    (hb : ∀ x, Gd F H (some (.ex x)) → Bad c F H σ x) (hn : ¬ Gd F H none) (hup : ∀ r F1 H1, Gd F H r → Up F H F1 H1 → Gd F1 H1 r) (h : Gd F H (bnd (fa δ) k))
    (hk : ∀ d v F1 H1, fa δ = some (.ok d) → Up F H F1 H1 → c.E F1 H1 σ δ → (∃ A, Own c.K F1 H1 oa d v A) → Gd F1 H1 (k d) → Q1 v H1) : tV c ta fa σ H Q1 := by
  refine ⟨F, δ, E, ?_⟩
  cases e : fa δ with
  | none => rw [e] at h; exact (hn h).elim
  | some r =>
    rw [e] at h
    cases r with
    | ex x => exact hb x h
    | ok d =>
      intro v F1 H1 u p
      obtain ⟨F2, u2, s2, A, o⟩ := p.coe u co
      exact hk d v F2 H1 e u2 (E.up u2) ⟨A, o⟩ (hup _ _ _ h u2)
theorem tV.goV {ta ty : Ty} {oa : OT} {fa : Env → Option R} {Q1 Q : VK} {k : D → Option R} (co : coe ta oa = true) (E : c.E F H σ δ) (h : Gv c ty F H σ Q (bnd (fa δ) k))
    (hk : ∀ d v F1 H1, Up F H F1 H1 → c.E F1 H1 σ δ → (∃ A, Own c.K F1 H1 oa d v A) → Gv c ty F1 H1 σ Q (k d) → Q1 v H1) : tV c ta fa σ H Q1 :=
  tV.go (Gd := fun F H r => Gv c ty F H σ Q r) co E (fun _ h => h) (fun h => h) (fun _ _ _ g u => g.up u) h fun d v F1 H1 _ => hk d v F1 H1
theorem tV.goT {ta : Ty} {oa : OT} {fa : Env → Option R} {Q1 : VK} {Q : Bool → Hp → Prop} {k : D → Option R} (co : coe ta oa = true) (E : c.E F H σ δ) (h : Gt c F H σ Q (bnd (fa δ) k))
    (hk : ∀ d v F1 H1, Up F H F1 H1 → c.E F1 H1 σ δ → (∃ A, Own c.K F1 H1 oa d v A) → Gt c F1 H1 σ Q (k d) → Q1 v H1) : tV c ta fa σ H Q1 :=
  tV.go (Gd := fun F H r => Gt c F H σ Q r) co E (fun _ h => h) (fun h => h) (fun _ _ _ g u => g.up u) h fun d v F1 H1 _ => hk d v F1 H1
/-- .. the operand as it is -/
theorem tV.goW {ty : Ty} {fa : Env → Option R} {Q1 Q : VK} {k : D → Option R} (E : c.E F H σ δ) (h : Gv c ty F H σ Q (bnd (fa δ) k))
    (hk : ∀ d v F1 H1, fa δ = some (.ok d) → Up F H F1 H1 → c.E F1 H1 σ δ → (∃ A, Own c.K F1 H1 o d v A) → Gv c ty F1 H1 σ Q (k d) → Q1 v H1) : tV c (.vw o) fa σ H Q1 := by
  refine ⟨F, δ, E, ?_⟩
  cases e : fa δ with
  | none => rw [e] at h; exact h.elim
  | some r =>
    rw [e] at h
    cases r with
    | ex x => exact h
    | ok d =>
      intro v F1 H1 u p
      exact hk d v F1 H1 e u (E.up u) p (Gv.up h u)
theorem Gv.okO {Q : VK} {r : Option D} (g : Gv c (.vw .fz) F H σ Q (Ev.okO r)) : ∃ d, r = some d ∧ ∀ v F' H', Up F H F' H' → Is c.K F' d v → Q v H' := by
  cases r with
  | none => exact g.elim
  | some d => exact ⟨d, rfl, fun v F' H' u i => g v F' H' u ⟨[], Own.of_is i⟩⟩
theorem Gv.okB {Q : VK} {r : Option Bool} (g : Gv c (.vw .fz) F H σ Q (Ev.okB r)) : ∃ b, r = some b ∧ ∀ F' H', Up F H F' H' → Q (.bl b) H' := by
  cases r with
  | none => exact g.elim
  | some b => exact ⟨b, rfl, fun F' H' u => g _ F' H' u ⟨[], Own.of_is (by simp only [Is])⟩⟩
theorem Gt.okB {Q : Bool → Hp → Prop} {r : Option Bool} (g : Gt c F H σ Q (Ev.okB r)) : ∃ b, r = some b ∧ ∀ F' H', Up F H F' H' → Q b H' := by
  cases r with
  | none => exact g.elim
  | some b => exact ⟨b, rfl, g⟩
/-! ### names, constants -/
def evVar (i : Nat) : Env → Option R := fun δ => match δ[i]? with
  | some (some d) => some (.ok d)
  | _ => none
theorem s_var {i : Nat} {k : Kd} {x : Str} {pos : Pos} (hN : X.N[i]? = some x) (hv : Vis X.env.scope x) (hd : (x == ("__debug__" : Str)) = false) (hcd : (x == ("__classdict__" : Str)) = false) (hk : c.Ks[i]? = some k) :
    PE X (.Name x pos) (tV c (.vw k.ot) (evVar i)) := by
  refine PE.imp (pe_var hN hv hd hcd) fun σ H Q h => ?_
  obtain ⟨F, δ, E, h⟩ := h
  unfold evVar at h
  cases e : δ[i]? with
  | none => rw [e] at h; exact h.elim
  | some o =>
    cases o with
    | none => rw [e] at h; exact h.elim
    | some d =>
      rw [e] at h
      obtain ⟨v, e1, A, h1⟩ := EnvOk.var E hk e
      exact ⟨v, e1, h v F H (Up.refl E.fh) ⟨A, h1⟩⟩
theorem s_c {e : Expr} {v : V} {d : D} (h : PE X e (tC v)) (hd : ∀ K H, Is K H d v) : PE X e (tV c (.vw .fz) fun _ => some (.ok d)) := by
  refine PE.imp h fun σ H Q h => ?_
  obtain ⟨F, δ, E, h⟩ := h
  exact h v F H (Up.refl E.fh) ⟨[], Own.of_is (hd _ _)⟩
/-! ### operators of two values -/
/-- the operator's rule, on data: operands taken as oa, ob -/
def OpS (X : Cx) (c : Cp) (g : Value → Value → Sem Value) (oa ob : OT) (f : D → D → Option D) : Prop := ∃ r : R2, OpR X g r ∧
  ∀ (F H : Hp) (x y : V) (dx dy d : D) (A B : List Addr) (Q : VK), Same F H → Own c.K F H oa dx x A → Own c.K F H ob dy y B → f dx dy = some d → (∀ v F' H', Up F H F' H' → Is c.K F' d v → Q v H') → r x y H Q
variable {a b : Expr} {pos : Pos} {ta tb : Ty} {oa ob : OT} {fa fb : Env → Option R}
theorem s_bin {op : Operator} {f : D → D → Option D} (ho : OpS X c (binaryOp op) oa ob f) (ha : PE X a (tV c ta fa)) (hb : PE X b (tV c tb fb)) (ca : coe ta oa = true) (cb : coe tb ob = true) :
    PE X (.BinOp a op b pos) (tV c (.vw .fz) fun δ => bnd (fa δ) fun x => bnd (fb δ) fun y => okO (f x y)) := by
  obtain ⟨r, hr, hf⟩ := ho
  refine PE.imp (pe_op hr ha hb) fun σ H Q h => ?_
  obtain ⟨F, δ, E, h⟩ := h
  refine tV.goV ca E h fun dx x F1 H1 u1 E1 hx h1 => ?_
  refine tV.goV cb E1 h1 fun dy y F2 H2 u2 E2 hy h2 => ?_
  obtain ⟨A, hx⟩ := hx
  obtain ⟨B, hy⟩ := hy
  obtain ⟨d, e, q⟩ := h2.okO
  exact hf F2 H2 x y dx dy d A B Q u2.fh (hx.up u2) hy e q
theorem s_cmp {op : CmpOp} {f : D → D → Option Bool} (ho : OpS X c (compareOp op) oa ob fun x y => (f x y).map D.bl) (ha : PE X a (tV c ta fa)) (hb : PE X b (tV c tb fb)) (ca : coe ta oa = true) (cb : coe tb ob = true) (hm : behindInMarks op b = false) :
    PE X (.Compare a [op] [b] pos) (tV c (.vw .fz) fun δ => bnd (fa δ) fun x => bnd (fb δ) fun y => okB (f x y)) := by
  obtain ⟨r, hr, hf⟩ := ho
  refine PE.imp (pe_cmpR hr ha hb hm) fun σ H Q h => ?_
  obtain ⟨F, δ, E, h⟩ := h
  refine tV.goV ca E h fun dx x F1 H1 u1 E1 hx h1 => ?_
  refine tV.goV cb E1 h1 fun dy y F2 H2 u2 E2 hy h2 => ?_
  obtain ⟨A, hx⟩ := hx
  obtain ⟨B, hy⟩ := hy
  obtain ⟨k, e, q⟩ := h2.okB
  refine hf F2 H2 x y dx dy (.bl k) A B Q u2.fh (hx.up u2) hy (by show (f dx dy).map D.bl = _; rw [e]; rfl) fun v F' H' u i => ?_
  simp only [Is] at i
  rw [i]; exact q F' H' u
theorem t_cmp {op : CmpOp} {f : D → D → Option Bool} (ho : OpS X c (compareOp op) oa ob fun x y => (f x y).map D.bl) (ha : PE X a (tV c ta fa)) (hb : PE X b (tV c tb fb)) (ca : coe ta oa = true) (cb : coe tb ob = true) (hm : behindInMarks op b = false) :
    PT X (.Compare a [op] [b] pos) (tT c fun δ => bnd (fa δ) fun x => bnd (fb δ) fun y => okB (f x y)) := by
  obtain ⟨r, hr, hf⟩ := ho
  refine PT.imp (pt_cmpR hr ha hb hm) fun σ H Q h => ?_
  obtain ⟨F, δ, E, h⟩ := h
  refine tV.goT ca E h fun dx x F1 H1 u1 E1 hx h1 => ?_
  refine tV.goT cb E1 h1 fun dy y F2 H2 u2 E2 hy h2 => ?_
  obtain ⟨A, hx⟩ := hx
  obtain ⟨B, hy⟩ := hy
  obtain ⟨k, e, q⟩ := h2.okB
  refine hf F2 H2 x y dx dy (.bl k) A B _ u2.fh (hx.up u2) hy (by show (f dx dy).map D.bl = _; rw [e]; rfl) fun v F' H' u i => ?_
  simp only [Is] at i
  exact ⟨k, i, q F' H' u⟩
end Ev

set_option maxHeartbeats 4000000
/-! Ev, part D: tests, choices, places, displays, arguments. -/
namespace Ev
open PySem PySem.Spec PyProof.Rows L2
variable {X : Cx} {c : Cp} {F G H F' H' : Hp} {σ : L2.St} {δ : Env} {a b e : Expr} {pos : Pos} {ta tb tc ty : Ty} {oa ob oc : OT} {fa fb fc : Env → Option R}
/-! ### tests -/
def bndB (r : Option R) (k : Bool → Option R) : Option R := match r with
  | some (.ok (.bl b)) => k b
  | some (.ex x) => some (.ex x)
  | _ => none
theorem bndB_eq (r : Option R) (k : Bool → Option R) : bndB r k = bnd r fun d => bndB (some (.ok d)) k := by
  cases r with
  | none => rfl
  | some r => cases r <;> rfl
theorem bnd_id (r : Option R) : bnd r (fun d => some (.ok d)) = r := by
  cases r with
  | none => rfl
  | some r => cases r <;> rfl
theorem Gt.bl {Q : Bool → Hp → Prop} {b : Bool} (g : Gt c F H σ Q (some (.ok (.bl b)))) : ∀ F' H', Up F H F' H' → Q b H' := g
/-- a test ahead of the rest -/
theorem tT.go {Q1 : Bool → Hp → Prop} {Gd : Hp → Hp → Option R → Prop} {k : Bool → Option R} (E : c.E F H σ δ)
    (hb : ∀ x, Gd F H (some (.ex x)) → Bad c F H σ x) (hn : ¬ Gd F H none) (hup : ∀ r F1 H1, Gd F H r → Up F H F1 H1 → Gd F1 H1 r) (h : Gd F H (bndB (fa δ) k))
    (hk : ∀ b F1 H1, Up F H F1 H1 → c.E F1 H1 σ δ → Gd F1 H1 (k b) → Q1 b H1) : tT c fa σ H Q1 := by
  refine ⟨F, δ, E, ?_⟩
  cases e : fa δ with
  | none => rw [e] at h; exact (hn h).elim
  | some r =>
    rw [e] at h
    cases r with
    | ex x => exact hb x h
    | ok d =>
      cases d with
      | bl b => exact fun F1 H1 u => hk b F1 H1 u (E.up u) (hup _ _ _ h u)
      | _ => exact (hn h).elim
theorem tT.goT {Q Q1 : Bool → Hp → Prop} {k : Bool → Option R} (E : c.E F H σ δ) (h : Gt c F H σ Q (bndB (fa δ) k))
    (hk : ∀ b F1 H1, Up F H F1 H1 → c.E F1 H1 σ δ → Gt c F1 H1 σ Q (k b) → Q1 b H1) : tT c fa σ H Q1 :=
  tT.go (Gd := fun F H r => Gt c F H σ Q r) E (fun _ h => h) (fun h => h) (fun _ _ _ g u => g.up u) h hk
theorem tT.goV {ty : Ty} {Q : VK} {Q1 : Bool → Hp → Prop} {k : Bool → Option R} (E : c.E F H σ δ) (h : Gv c ty F H σ Q (bndB (fa δ) k))
    (hk : ∀ b F1 H1, Up F H F1 H1 → c.E F1 H1 σ δ → Gv c ty F1 H1 σ Q (k b) → Q1 b H1) : tT c fa σ H Q1 :=
  tT.go (Gd := fun F H r => Gv c ty F H σ Q r) E (fun _ h => h) (fun h => h) (fun _ _ _ g u => g.up u) h hk
/-- a value that is a bool, as a test -/
theorem t_val (ha : PE X a (tV c ta fa)) (he : ∀ whole, isTrue a X.env whole = (do let v ← whole; standAt a.pos; holding [v] (truthy v))) (ca : coe ta .fz = true) : PT X a (tT c fa) := by
  refine PT.imp (pt_val ha he) fun σ H Q h => ?_
  obtain ⟨F, δ, E, h⟩ := h
  rw [← bnd_id (fa δ)] at h
  refine tV.goT ca E h fun dx x F1 H1 u1 E1 hx h1 => ?_
  obtain ⟨A, hx⟩ := hx
  cases dx with
  | bl b =>
    have q := hx.is
    simp only [Is] at q
    exact ⟨b, q, h1 F1 H1 (Up.refl u1.fh)⟩
  | _ => exact h1.elim
theorem t_not (ha : PT X a (tT c fa)) : PT X (.UnaryOp .Not a pos) (tT c fun δ => bndB (fa δ) fun b => some (.ok (.bl (!b)))) := by
  refine PT.imp (pt_not ha) fun σ H Q h => ?_
  obtain ⟨F, δ, E, h⟩ := h
  exact tT.goT E h fun b F1 H1 u1 E1 h1 => h1 F1 H1 (Up.refl u1.fh)
theorem s_not (ha : PE X a (tV c ta fa)) (ca : coe ta .fz = true) : PE X (.UnaryOp .Not a pos) (tV c (.vw .fz) fun δ => bndB (fa δ) fun b => some (.ok (.bl (!b)))) := by
  refine PE.imp (pe_not ha) fun σ H Q h => ?_
  obtain ⟨F, δ, E, h⟩ := h
  change Gv c (.vw .fz) F H σ Q (bndB (fa δ) _) at h
  rw [bndB_eq] at h
  refine tV.goV ca E h fun dx x F1 H1 u1 E1 hx h1 => ?_
  obtain ⟨A, hx⟩ := hx
  cases dx with
  | bl b =>
    have q := hx.is
    simp only [Is] at q
    exact ⟨b, q, h1 _ F1 H1 (Up.refl u1.fh) ⟨[], Own.of_is (by simp only [Is])⟩⟩
  | _ => exact h1.elim
/-- and, or: as tests -/
theorem w_one {op : BoolOp} (ha : PT X a (tT c fa)) : PW X (.BoolOp op [a] pos) (tT c fa) := by
  cases op with
  | And => exact pw_and1 ha
  | Or => exact pw_or1 ha
theorem PW.imp {t t' : TT} (h : PW X e t) (i : ∀ σ H Q, t' σ H Q → t σ H Q) : PW X e t' := ⟨fun wh pins s σ H Q I q => h.run wh pins s σ H Q I (i σ H Q q)⟩
theorem w_and {rest : List Expr} (ha : PT X a (tT c fa)) (hb : PW X (.BoolOp .And (b :: rest) pos) (tT c fb)) :
    PW X (.BoolOp .And (a :: b :: rest) pos) (tT c fun δ => bndB (fa δ) fun x => if x then fb δ else some (.ok (.bl false))) := by
  refine PW.imp (pw_and ha hb) fun σ H Q h => ?_
  obtain ⟨F, δ, E, h⟩ := h
  refine tT.goT E h fun x F1 H1 u1 E1 h1 => ?_
  cases x with
  | true => exact ⟨F1, δ, E1, h1⟩
  | false => exact h1 F1 H1 (Up.refl u1.fh)
theorem w_or {rest : List Expr} (ha : PT X a (tT c fa)) (hb : PW X (.BoolOp .Or (b :: rest) pos) (tT c fb)) :
    PW X (.BoolOp .Or (a :: b :: rest) pos) (tT c fun δ => bndB (fa δ) fun x => if x then some (.ok (.bl true)) else fb δ) := by
  refine PW.imp (pw_or ha hb) fun σ H Q h => ?_
  obtain ⟨F, δ, E, h⟩ := h
  refine tT.goT E h fun x F1 H1 u1 E1 h1 => ?_
  cases x with
  | true => exact h1 F1 H1 (Up.refl u1.fh)
  | false => exact ⟨F1, δ, E1, h1⟩
/-- .. as values -/
theorem s_one {op : BoolOp} (ha : PE X a (tV c ta fa)) : PE X (.BoolOp op [a] pos) (tV c ta fa) := pe_one ha
theorem s_and {rest : List Expr} (ha : PE X a (tV c ta fa)) (ca : coe ta .fz = true) (hb : PE X (.BoolOp .And (b :: rest) pos) (tV c (.vw .fz) fb)) :
    PE X (.BoolOp .And (a :: b :: rest) pos) (tV c (.vw .fz) fun δ => bndB (fa δ) fun x => if x then fb δ else some (.ok (.bl false))) := by
  refine PE.imp (pe_and ha hb) fun σ H Q h => ?_
  obtain ⟨F, δ, E, h⟩ := h
  change Gv c (.vw .fz) F H σ Q (bndB (fa δ) _) at h
  rw [bndB_eq] at h
  refine tV.goV ca E h fun dx x F1 H1 u1 E1 hx h1 => ?_
  obtain ⟨A, hx⟩ := hx
  cases dx with
  | bl b =>
    have q := hx.is
    simp only [Is] at q
    refine ⟨b, q, ?_⟩
    cases b with
    | true => exact ⟨F1, δ, E1, h1⟩
    | false => exact h1 _ F1 H1 (Up.refl u1.fh) ⟨[], Own.of_is (by simp only [Is])⟩
  | _ => exact h1.elim
theorem s_or {rest : List Expr} (ha : PE X a (tV c ta fa)) (ca : coe ta .fz = true) (hb : PE X (.BoolOp .Or (b :: rest) pos) (tV c (.vw .fz) fb)) :
    PE X (.BoolOp .Or (a :: b :: rest) pos) (tV c (.vw .fz) fun δ => bndB (fa δ) fun x => if x then some (.ok (.bl true)) else fb δ) := by
  refine PE.imp (pe_or ha hb) fun σ H Q h => ?_
  obtain ⟨F, δ, E, h⟩ := h
  change Gv c (.vw .fz) F H σ Q (bndB (fa δ) _) at h
  rw [bndB_eq] at h
  refine tV.goV ca E h fun dx x F1 H1 u1 E1 hx h1 => ?_
  obtain ⟨A, hx⟩ := hx
  cases dx with
  | bl b =>
    have q := hx.is
    simp only [Is] at q
    refine ⟨b, q, ?_⟩
    cases b with
    | true => exact h1 _ F1 H1 (Up.refl u1.fh) ⟨[], Own.of_is (by simp only [Is])⟩
    | false => exact ⟨F1, δ, E1, h1⟩
  | _ => exact h1.elim
/-- a if t else b -/
theorem s_ife {t : Expr} (hc : PT X t (tT c fc)) (ha : PE X a (tV c ty fa)) (hb : PE X b (tV c ty fb)) : PE X (.IfExp t a b pos) (tV c ty fun δ => bndB (fc δ) fun x => if x then fa δ else fb δ) := by
  refine PE.imp (pe_ifExp hc ha hb) fun σ H Q h => ?_
  obtain ⟨F, δ, E, h⟩ := h
  refine tT.goV E h fun x F1 H1 u1 E1 h1 => ?_
  cases x with
  | true => exact ⟨F1, δ, E1, h1⟩
  | false => exact ⟨F1, δ, E1, h1⟩
/-- a type's forgetting -/
theorem s_fz (ha : PE X a (tV c ta fa)) (ca : coe ta .fz = true) : PE X a (tV c (.vw .fz) fa) := by
  refine PE.imp ha fun σ H Q h => ?_
  obtain ⟨F, δ, E, h⟩ := h
  rw [← bnd_id (fa δ)] at h
  exact tV.goV ca E h fun dx x F1 H1 u1 E1 hx h1 => h1 x F1 H1 (Up.refl u1.fh) hx
/-- two comparisons in a chain -/
theorem s_chain {op op' : CmpOp} {e3 : Expr} {f f' : D → D → Option Bool} (ho : OpS X c (compareOp op) oa ob fun x y => (f x y).map D.bl) (ho' : OpS X c (compareOp op') ob oc fun x y => (f' x y).map D.bl)
    (ha : PE X a (tV c ta fa)) (hb : PE X b (tV c tb fb)) (h3 : PE X e3 (tV c tc fc)) (ca : coe ta oa = true) (cb : coe tb ob = true) (cc : coe tc oc = true)
    (hm : lastMarks [op, op'] [b, e3] = false) : PT X (.Compare a [op, op'] [b, e3] pos) (tT c fun δ => bnd (fa δ) fun x => bnd (fb δ) fun y => bndB (okB (f x y)) fun k => if k then bnd (fc δ) fun z => okB (f' y z) else some (.ok (.bl false))) := by
  obtain ⟨r, hr, hf⟩ := ho
  obtain ⟨r', hr', hf'⟩ := ho'
  refine PT.imp (pt_chain hr hr' ha hb h3 hm) fun σ H Q h => ?_
  obtain ⟨F, δ, E, h⟩ := h
  refine tV.goT ca E h fun dx x F1 H1 u1 E1 hx h1 => ?_
  refine tV.goT cb E1 h1 fun dy y F2 H2 u2 E2 hy h2 => ?_
  obtain ⟨A, hx⟩ := hx
  obtain ⟨B, hy⟩ := hy
  cases e : f dx dy with
  | none => rw [e] at h2; exact h2.elim
  | some k =>
    rw [e] at h2
    refine hf F2 H2 x y dx dy (.bl k) A B _ u2.fh (hx.up u2) hy (by show (f dx dy).map D.bl = _; rw [e]; rfl) fun v F' H' u i => ?_
    simp only [Is] at i
    refine ⟨k, i, ?_⟩
    cases k with
    | false => exact ⟨false, rfl, h2 F' H' u⟩
    | true =>
      have h3 : Gt c F2 H2 σ Q (bnd (fc δ) fun z => okB (f' dy z)) := h2
      refine tV.goT cc (E2.up u) (h3.up u) fun dz z F4 H4 u4 E4 hz h4 => ?_
      obtain ⟨C, hz⟩ := hz
      obtain ⟨k2, e2, q⟩ := h4.okB
      refine hf' F4 H4 y z dy dz (.bl k2) B C _ u4.fh (hy.up (u.trans u4)) hz (by show (f' dy dz).map D.bl = _; rw [e2]; rfl) fun v F' H' u i => ?_
      simp only [Is] at i
      exact ⟨k2, i, q F' H' u⟩
/-! ### subscripts, slices -/
end Ev

set_option maxHeartbeats 4000000
/-! Ev, part E: items, slices, arguments, displays, fields. -/
namespace Ev
open PySem PySem.Spec PyProof.Rows L2
variable {X : Cx} {c : Cp} {F G H F' G' H' : Hp} {σ : L2.St} {δ : Env} {a b e : Expr} {pos : Pos} {ta tb tc ty : Ty} {oa ob oc o : OT} {fa fb fc : Env → Option R}
theorem PE.or {t t' : TE} (h : PE X e t) (h' : PE X e t') : PE X e (fun σ H Q => t σ H Q ∨ t' σ H Q) := ⟨fun pins s σ H Q I q => by
  rcases q with q | q
  · exact h.run pins s σ H Q I q
  · exact h'.run pins s σ H Q I q⟩
/-! ### what a list, a tuple shows -/
def elT : OT → OT
  | .lst o => o
  | _ => .fz
theorem OwnL.get {K : PySem.W.Frag} : ∀ {o : OT} {ds : List D} {vs : List V} {A : List Addr} {i : Nat} {d : D}, OwnL K F H o ds vs A → ds[i]? = some d → ∃ w, vs[i]? = some w ∧ ∃ B, Own K F H o d w B
  | _, [], _, _, _, _, _, e => by simp at e
  | o, d :: ds, _, _, 0, _, h, e => by
    simp only [OwnL] at h
    obtain ⟨v, r, A1, A2, rfl, h1, h2, rfl⟩ := h
    simp at e; subst e
    exact ⟨v, rfl, A1, h1⟩
  | o, d :: ds, _, _, i + 1, _, h, e => by
    simp only [OwnL] at h
    obtain ⟨v, r, A1, A2, rfl, h1, h2, rfl⟩ := h
    obtain ⟨w, e2, h3⟩ := OwnL.get (i := i) h2 (by simpa using e)
    exact ⟨w, by simpa using e2, h3⟩
theorem OwnL.length {K : PySem.W.Frag} : ∀ {o : OT} {ds : List D} {vs : List V} {A : List Addr}, OwnL K F H o ds vs A → vs.length = ds.length
  | _, [], _, _, h => by simp only [OwnL] at h; rw [h.1]; rfl
  | o, d :: ds, _, _, h => by
    simp only [OwnL] at h
    obtain ⟨v, r, A1, A2, rfl, h1, h2, rfl⟩ := h
    rw [List.length_cons, List.length_cons, OwnL.length h2]
theorem Own.lst {K : PySem.W.Frag} {ds : List D} {v : V} {A : List Addr} (h : Own K F H o (.lst ds) v A) (s : Same F H) :
    ∃ (p : Addr) (vs : List V), v = .ref p ∧ H p = some (.lst vs) ∧ vs.length = ds.length ∧ ∀ (i : Nat) (d : D), ds[i]? = some d → ∃ w, vs[i]? = some w ∧ ∃ B, Own K F H (elT o) d w B := by
  have fz : ∀ {A}, Own K F H .fz (.lst ds) v A → ∃ (p : Addr) (vs : List V), v = .ref p ∧ H p = some (.lst vs) ∧ vs.length = ds.length ∧ ∀ (i : Nat) (d : D), ds[i]? = some d → ∃ w, vs[i]? = some w ∧ ∃ B, Own K F H .fz d w B := fun {A} h => by
    have h := h.is
    simp only [Is] at h
    obtain ⟨p, vs, e, h1, h2⟩ := h
    refine ⟨p, vs, e, s _ _ h1, h2.length, fun i d e => ?_⟩
    obtain ⟨w, e2, h3⟩ := h2.get e
    exact ⟨w, e2, [], Own.of_is h3⟩
  cases o with
  | fz => exact fz h
  | bw =>
    simp only [Own] at h
    rcases h with ⟨rfl, h⟩ | ⟨ds', p, vs, e1, e2, h1, h2, rfl⟩ | ⟨ks, ds', p, kvs, e1, _⟩
    · exact fz (Own.of_is h)
    · cases e1
      refine ⟨p, vs, e2, h1, h2.length, fun i d e => ?_⟩
      obtain ⟨w, e2, h3⟩ := h2.get e
      exact ⟨w, e2, [], Own.of_is h3⟩
    · cases e1
  | lst o =>
    simp only [Own] at h
    obtain ⟨p, vs, B, e, h1, h2, rfl⟩ := h
    exact ⟨p, vs, e, h1, h2.length, fun i d e => h2.get e⟩
  | dic => simp [Own] at h
  | ins os => simp [Own] at h
theorem Own.tup {K : PySem.W.Frag} {ds : List D} {v : V} {A : List Addr} (h : Own K F H o (.tup ds) v A) (s : Same F H) :
    ∃ p vs, v = .ref p ∧ H p = some (.tup vs) ∧ IsL K F ds vs ∧ elT o = .fz := by
  have fz : ∀ {A}, Own K F H .fz (.tup ds) v A → ∃ p vs, v = .ref p ∧ H p = some (.tup vs) ∧ IsL K F ds vs := fun {A} h => by
    have h := h.is
    simp only [Is] at h
    obtain ⟨p, vs, e, h1, h2⟩ := h
    exact ⟨p, vs, e, s _ _ h1, h2⟩
  cases o with
  | fz => obtain ⟨p, vs, e, h1, h2⟩ := fz h; exact ⟨p, vs, e, h1, h2, rfl⟩
  | bw =>
    simp only [Own] at h
    rcases h with ⟨rfl, h⟩ | ⟨ds', p, vs, e1, e2, h1, h2, rfl⟩ | ⟨ks, ds', p, kvs, e1, _⟩
    · obtain ⟨p, vs, e, h1, h2⟩ := fz (Own.of_is h); exact ⟨p, vs, e, h1, h2, rfl⟩
    · cases e1
    · cases e1
  | lst o => simp [Own] at h
  | dic => simp [Own] at h
  | ins os => simp [Own] at h
theorem Own.dict {K : PySem.W.Frag} {ks : List Key} {ds : List D} {v : V} {A : List Addr} (h : Own K F H o (.dic ks ds) v A) (s : Same F H) :
    ∃ p kvs, v = .ref p ∧ H p = some (.dK kvs) ∧ kvs.map (·.1) = ks ∧ IsL K F ds (kvs.map (·.2)) ∧ elT o = .fz := by
  have fz : ∀ {A}, Own K F H .fz (.dic ks ds) v A → ∃ p kvs, v = .ref p ∧ H p = some (.dK kvs) ∧ kvs.map (·.1) = ks ∧ IsL K F ds (kvs.map (·.2)) := fun {A} h => by
    have h := h.is
    simp only [Is] at h
    obtain ⟨p, vs, e, h1, h2, h3⟩ := h
    exact ⟨p, vs, e, s _ _ h1, h2, h3⟩
  cases o with
  | fz => obtain ⟨p, vs, e, h1, h2, h3⟩ := fz h; exact ⟨p, vs, e, h1, h2, h3, rfl⟩
  | bw =>
    simp only [Own] at h
    rcases h with ⟨rfl, h⟩ | ⟨ds', p, vs, e1, e2, h1, h2, rfl⟩ | ⟨ks, ds', p, kvs, e1, e2, h1, h2, h3, rfl⟩
    · obtain ⟨p, vs, e, h1, h2, h3⟩ := fz (Own.of_is h); exact ⟨p, vs, e, h1, h2, h3, rfl⟩
    · cases e1
    · cases e1; exact ⟨p, kvs, e2, h1, h2, h3, rfl⟩
  | lst o => simp [Own] at h
  | dic =>
    simp only [Own] at h
    obtain ⟨p, kvs, e2, h1, h2, h3, rfl⟩ := h
    exact ⟨p, kvs, e2, h1, h2, h3, rfl⟩
  | ins os => simp [Own] at h
/-- a datum that is no list, tuple, dict, instance: frozen whatever its type says -/
theorem Own.scal {K : PySem.W.Frag} {d : D} {v : V} {A : List Addr} (h : Own K F H o d v A) (hd : (match d with | .lst _ => false | .dic _ _ => false | .ins _ _ => false | _ => true) = true) : Is K F d v := by
  cases o with
  | fz => exact h.is
  | bw =>
    simp only [Own] at h
    rcases h with ⟨_, h⟩ | ⟨ds', p, vs, e1, e2, h1, h2, rfl⟩ | ⟨ks, ds', p, kvs, e1, e2, h1, h2, h3, rfl⟩
    · exact h
    · subst e1; cases hd
    · subst e1; cases hd
  | _ => cases d <;> first | (simp [Own] at h; done) | cases hd
/-! ### a[b] -/
def keyD : D → Option Key
  | .int i => some (.inl i)
  | .str x => some (.inr x)
  | _ => none
def lookD (k : Key) : List Key → List D → Option D
  | j :: ks, d :: ds => if j = k then some d else lookD k ks ds
  | _, _ => none
def ixD (x y : D) : Option D := match x, y with
  | .lst ds, .int i => atI ds i
  | .tup ds, .int i => atI ds i
  | .str z, .int i => if z.length ≤ sizeLine then (atI z.cps.toList i).map fun q => .str ⟨#[q]⟩ else none
  | .lck ns, .int i => (atI ns i).map D.int
  | .dic ks ds, y => (keyD y).bind fun k => lookD k ks ds
  | _, _ => none
theorem atI_map {α β : Type} {xs : List α} {ys : List β} {i : Int} {x : α} (hl : ys.length = xs.length) (h : atI xs i = some x) : ∃ j : Nat, xs[j]? = some x ∧ ∀ y : β, ys[j]? = some y → atI ys i = some y := by
  unfold atI at h ⊢
  rw [hl]
  cases e : ixN xs.length i with
  | none => rw [e] at h; cases h
  | some j => rw [e] at h; exact ⟨j, h, fun y hy => hy⟩
theorem keyD_is {K : PySem.W.Frag} {d : D} {k : Key} {v : V} (e : keyD d = some k) (h : Is K H d v) : v = kV k := by
  cases d <;> simp [keyD] at e
  · subst e; simpa only [Is, kV] using h
  · subst e; simp only [Is] at h; exact h.1
theorem lookD_val {K : PySem.W.Frag} {k : Key} : ∀ {kvs : List (Key × V)} {ds : List D} {d : D}, IsL K F ds (kvs.map (·.2)) → lookD k (kvs.map (·.1)) ds = some d → ∃ v, valV kvs k = some v ∧ Is K F d v
  | [], ds, d, h, e => by cases ds <;> simp [lookD] at e
  | (j, w) :: r, [], d, h, e => by simp [lookD] at e
  | (j, w) :: r, x :: ds, d, h, e => by
    simp only [List.map_cons, IsL] at h
    obtain ⟨v, r2, e2, h1, h2⟩ := h
    cases e2
    simp only [List.map_cons, lookD] at e
    by_cases hj : j = k
    · rw [if_pos hj] at e
      cases e
      refine ⟨w, ?_, h1⟩
      unfold valV
      rw [List.find?_cons_of_pos (by simp [hj])]
      rfl
    · rw [if_neg hj] at e
      obtain ⟨v, e3, h3⟩ := lookD_val (kvs := r) h2 e
      refine ⟨v, ?_, h3⟩
      unfold valV at e3 ⊢
      rw [List.find?_cons_of_neg (by simp [hj])]
      exact e3
theorem lookD_none {k : Key} : ∀ {kvs : List (Key × V)} {ds : List D}, ds.length = kvs.length → lookD k (kvs.map (·.1)) ds = none → valV kvs k = none
  | [], ds, h, e => by unfold valV; rfl
  | (j, w) :: r, [], h, e => by simp at h
  | (j, w) :: r, x :: ds, h, e => by
    simp only [List.map_cons, lookD] at e
    by_cases hj : j = k
    · rw [if_pos hj] at e; cases e
    · rw [if_neg hj] at e
      have e3 := lookD_none (kvs := r) (ds := ds) (by simpa using h) e
      unfold valV at e3 ⊢
      rw [List.find?_cons_of_neg (by simp [hj])]
      exact e3
theorem strOk_iff {x : Str} : PyData.strOk x = true ↔ ∀ q ∈ x.cps.toList, q < 0x110000 := by
  unfold PyData.strOk
  rw [← Array.all_toList, List.all_eq_true]
  simp
theorem atI_mem {α : Type} {xs : List α} {i : Int} {x : α} (h : atI xs i = some x) : x ∈ xs := by
  unfold atI at h
  cases e : ixN xs.length i with
  | none => rw [e] at h; cases h
  | some j => rw [e] at h; exact List.mem_of_getElem? h
theorem strOk_at {z : Str} {i : Int} {q : Nat} (h : PyData.strOk z = true) (e : atI z.cps.toList i = some q) : PyData.strOk ⟨#[q]⟩ = true := by
  rw [strOk_iff] at h ⊢
  intro r hr
  have : r = q := by simpa using hr
  subst this
  exact h _ (atI_mem e)
theorem strOk_cut {z : Str} {lo hi : Option Int} (h : PyData.strOk z = true) : PyData.strOk (cutS z lo hi) = true := by
  rw [strOk_iff] at h ⊢
  intro r hr
  unfold cutS at hr
  exact h r (List.mem_of_mem_drop (List.mem_of_mem_take (by simpa using hr)))
/-- the index: not a slice, and no star -/
theorem s_ix (ha : PE X a (tV c ta fa)) (hb : PE X b (tV c tb fb)) (hta : ta = .vw o) (cb : coe tb .fz = true) (hs : PlainIx b) (hn : NoSl b) (hu : X.A.units + 1 < cLine) (hK : X.K = c.K) :
    PE X (.Subscript a b pos) (tV c (.vw (elT o)) fun δ => bnd (fa δ) fun x => bnd (fb δ) fun y => okO (ixD x y)) := by
  subst hta
  refine PE.imp (PE.or (pe_ix (ix_seq (X := X)) ha hb hs) (pe_dget hu ha hb hn)) fun σ H Q h => ?_
  obtain ⟨F, δ, E, h⟩ := h
  have cases2 : (∃ ks ds, fa δ = some (.ok (.dic ks ds))) ∨ ¬ ∃ ks ds, fa δ = some (.ok (.dic ks ds)) := Classical.em _
  rcases cases2 with hd | hd
  · refine .inr (tV.goW E h fun dx x F1 H1 e1 u1 E1 hx h1 => ?_)
    obtain ⟨ks, ds, e2⟩ := hd
    rw [e2] at e1; cases e1
    refine tV.goV cb E1 h1 fun dy y F2 H2 u2 E2 hy h2 => ?_
    obtain ⟨A, hx⟩ := hx
    obtain ⟨B, hy⟩ := hy
    have ex : ∃ d, ixD (.dic ks ds) dy = some d := by
      cases q : ixD (.dic ks ds) dy with
      | none => rw [q] at h2; exact h2.elim
      | some d => exact ⟨d, rfl⟩
    obtain ⟨d, e3⟩ := ex
    rw [e3] at h2
    obtain ⟨p, kvs, rfl, hp, rfl, hl, et⟩ := (hx.up u2).dict u2.fh
    cases e4 : keyD dy with
    | none => simp [ixD, e4] at e3
    | some k =>
      simp [ixD, e4] at e3
      obtain ⟨v, hv, hi⟩ := lookD_val hl e3
      have hy2 := keyD_is e4 hy.is
      subst hy2
      refine ⟨p, v, rfl, ?_, h2 v F2 H2 (Up.refl u2.fh) ⟨[], ?_⟩⟩
      · rw [← hv]; exact DGet.k hp
      · rw [et]; exact Own.of_is hi
  · refine .inl (tV.goW E h fun dx x F1 H1 e1 u1 E1 hx h1 => ?_)
    refine tV.goV cb E1 h1 fun dy y F2 H2 u2 E2 hy h2 => ?_
    obtain ⟨A, hx⟩ := hx
    obtain ⟨B, hy⟩ := hy
    have hx2 := hx.up u2
    have ex : ∃ d, ixD dx dy = some d := by
      cases q : ixD dx dy with
      | none => rw [q] at h2; exact h2.elim
      | some d => exact ⟨d, rfl⟩
    obtain ⟨d, e3⟩ := ex
    rw [e3] at h2
    have fin : ∀ v, (∃ C, Own c.K F2 H2 (elT o) d v C) → Q v H2 := fun v q => h2 v F2 H2 (Up.refl u2.fh) q
    have yi : ∀ i, dy = .int i → y = .int i := fun i e => by
      subst e
      have q := hy.is
      simpa only [Is] using q
    cases dx with
    | lst ds =>
      cases dy with
      | int i =>
        simp only [ixD] at e3
        obtain ⟨p, vs, rfl, hp, hl, hg⟩ := hx2.lst u2.fh
        obtain ⟨j, hj, hj2⟩ := atI_map hl e3
        obtain ⟨w, hw, hB⟩ := hg j d hj
        exact .inl ⟨p, vs, i, w, rfl, yi i rfl, SqL.of hp, hj2 w hw, fin w hB⟩
      | _ => simp [ixD] at e3
    | tup ds =>
      cases dy with
      | int i =>
        simp only [ixD] at e3
        obtain ⟨p, vs, rfl, hp, hl, et⟩ := hx2.tup u2.fh
        obtain ⟨j, hj, hj2⟩ := atI_map hl.length e3
        obtain ⟨w, hw, hB⟩ := hl.get hj
        exact .inr (.inl ⟨p, vs, i, w, rfl, yi i rfl, SqT.of hp, hj2 w hw, fin w ⟨[], by rw [et]; exact Own.of_is hB⟩⟩)
      | _ => simp [ixD] at e3
    | str z =>
      cases dy with
      | int i =>
        simp only [ixD] at e3
        by_cases hz : z.length ≤ sizeLine
        · rw [if_pos hz] at e3
          cases e4 : atI z.cps.toList i with
          | none => rw [e4] at e3; cases e3
          | some q =>
            rw [e4] at e3
            cases e3
            have q1 := hx2.scal rfl
            simp only [Is] at q1
            have et : elT o = .fz := by cases o <;> first | rfl | (simp [Own] at hx2; done)
            exact .inr (.inr ⟨z, i, q, q1.1, yi i rfl, hz, e4, fin _ ⟨[], by rw [et]; exact Own.of_is (Is.str (strOk_at q1.2 e4))⟩⟩)
        · rw [if_neg hz] at e3; cases e3
      | _ => simp [ixD] at e3
    | lck ns =>
      cases dy with
      | int i =>
        simp only [ixD] at e3
        cases e4 : atI ns i with
        | none => rw [e4] at e3; cases e3
        | some q =>
          rw [e4] at e3
          cases e3
          have q1 := hx2.scal rfl
          simp only [Is] at q1
          obtain ⟨p, rfl, hp⟩ := q1
          have et : elT o = .fz := by cases o <;> first | rfl | (simp [Own] at hx2; done)
          obtain ⟨j, hj, hj2⟩ := atI_map (ys := ns.map V.int) (by simp) e4
          exact .inl ⟨p, ns.map V.int, i, .int q, rfl, yi i rfl, hK ▸ u2.fh.seq hp, hj2 _ (by rw [List.getElem?_map, hj]; rfl), fin _ ⟨[], by rw [et]; exact Own.of_is (by simp only [Is])⟩⟩
      | _ => simp [ixD] at e3
    | dic ks ds => exact (hd ⟨ks, ds, e1⟩).elim
    | _ => simp [ixD] at e3
/-! ### slices -/
def cutG {α : Type} (xs : List α) (lo hi : Option Int) : List α := (xs.drop (HT.sIx xs.length 0 lo)).take (HT.sIx xs.length xs.length hi - HT.sIx xs.length 0 lo)
theorem cutG_is {K : PySem.W.Frag} {ds : List D} {vs : List V} {lo hi : Option Int} (h : IsL K F ds vs) : IsL K F (cutG ds lo hi) (cutV vs lo hi) := by
  unfold cutG cutV
  rw [h.length]
  exact (h.drop _).take _
def slD (x : D) (lo hi : Option Int) : Option D := match x with
  | .lst ds => some (.lst (cutG ds lo hi))
  | .tup ds => some (.tup (cutG ds lo hi))
  | .str z => if z.length ≤ sizeLine then some (.str (cutS z lo hi)) else none
  | _ => none
/-- a part of a slice -/
def evP (f : Option (Env → Option R)) (δ : Env) (k : Option Int → Option R) : Option R := match f with
  | none => k none
  | some f => bnd (f δ) fun d => match d with
    | .int i => k (some i)
    | _ => none
def tP (c : Cp) : Option (Ty × (Env → Option R)) → TO
  | none => tNoPart
  | some (ty, f) => tPart (tV c ty f)
theorem tP.go {p : Option (Ty × (Env → Option R))} {Q1 : Option Int → Hp → Prop} {Q : VK} {k : Option Int → Option R} (hp : ∀ q, p = some q → Ev.coe q.1 .fz = true) (E : c.E F H σ δ) (h : Gv c ty F H σ Q (evP (p.map (·.2)) δ k))
    (hk : ∀ i F1 H1, Up F H F1 H1 → c.E F1 H1 σ δ → Gv c ty F1 H1 σ Q (k i) → Q1 i H1) : tP c p σ H Q1 := by
  cases p with
  | none => exact hk none F H (Up.refl E.fh) E h
  | some q =>
    obtain ⟨ty, f⟩ := q
    refine tV.goV (hp _ rfl) E h fun d x F1 H1 u1 E1 hx h1 => ?_
    obtain ⟨A, hx⟩ := hx
    cases d with
    | int i =>
      have q := hx.is
      simp only [Is] at q
      exact ⟨i, q, hk (some i) F1 H1 u1 E1 h1⟩
    | _ => exact h1.elim
def elO : OT → Bool
  | .lst .fz => true
  | .lst _ => false
  | .ins _ => false
  | _ => true
theorem elO_fz {o : OT} (h : elO o = true) : elT o = .fz := by
  cases o with
  | lst o => cases o <;> first | rfl | cases h
  | _ => rfl
/-- a list by its items, all frozen -/
theorem Own.lstF {K : PySem.W.Frag} {ds : List D} {v : V} {A : List Addr} (ho : elO o = true) (h : Own K F H o (.lst ds) v A) (s : Same F H) : ∃ p vs, v = .ref p ∧ H p = some (.lst vs) ∧ IsL K F ds vs := by
  cases o with
  | fz =>
    have h := h.is
    simp only [Is] at h
    obtain ⟨p, vs, e, h1, h2⟩ := h
    exact ⟨p, vs, e, s _ _ h1, h2⟩
  | bw =>
    simp only [Own] at h
    rcases h with ⟨_, h⟩ | ⟨ds', p, vs, e1, e2, h1, h2, rfl⟩ | ⟨ks, ds', p, kvs, e1, _⟩
    · simp only [Is] at h
      obtain ⟨p, vs, e, h1, h2⟩ := h
      exact ⟨p, vs, e, s _ _ h1, h2⟩
    · cases e1
      exact ⟨p, vs, e2, h1, h2⟩
    · cases e1
  | lst o =>
    cases o with
    | fz =>
      simp only [Own] at h
      obtain ⟨p, vs, B, e, h1, h2, rfl⟩ := h
      exact ⟨p, vs, e, h1, h2.fz.2⟩
    | _ => cases ho
  | dic => simp [Own] at h
  | ins os => cases ho
theorem PO_of {e : Option Expr} {p : Option (Ty × (Env → Option R))} (h : match e, p with
    | none, none => True
    | some e, some (ty, f) => PE X e (tV c ty f)
    | _, _ => False) : PO X e (tP c p) := by
  cases e with
  | none =>
    cases p with
    | none => exact po_none
    | some q => exact h.elim
  | some e =>
    cases p with
    | none => exact h.elim
    | some q => exact po_some h
theorem s_sl {lo hi : Option Expr} {p2 : Pos} {pl pu : Option (Ty × (Env → Option R))} (ha : PE X a (tV c ta fa)) (hl : PO X lo (tP c pl)) (hu : PO X hi (tP c pu)) (hta : ta = .vw o) (ho : elO o = true)
    (cl : ∀ q, pl = some q → Ev.coe q.1 .fz = true) (cu : ∀ q, pu = some q → Ev.coe q.1 .fz = true) :
    PE X (.Subscript a (.Slice lo hi none p2) pos) (tV c (.vw .fz) fun δ => bnd (fa δ) fun x => evP (pl.map (·.2)) δ fun l => evP (pu.map (·.2)) δ fun u => okO (slD x l u)) := by
  subst hta
  refine PE.imp (pe_slice (sl_list.or (sl_tupA.or sl_str)) ha hl hu) fun σ H Q h => ?_
  obtain ⟨F, δ, E, h⟩ := h
  refine tV.goW E h fun dx x F1 H1 e1 u1 E1 hx h1 => ?_
  refine tP.go cl E1 h1 fun l F2 H2 u2 E2 h2 => ?_
  refine tP.go cu E2 h2 fun r F3 H3 u3 E3 h3 => ?_
  obtain ⟨A, hx⟩ := hx
  have hx2 := hx.up (u2.trans u3)
  obtain ⟨d, e3, q⟩ := h3.okO
  cases dx with
  | lst ds =>
    cases e3
    obtain ⟨p, vs, rfl, hp, hi⟩ := hx2.lstF ho u3.fh
    refine .inl ⟨p, vs, rfl, SqL.of hp, fun z hz => q _ _ _ (Up.newF u3.fh hz) ?_⟩
    simp only [Is]
    exact ⟨z, _, rfl, upd_same, (cutG_is hi).mono (Up.newF (o := .lst (cutV vs l r)) u3.fh hz).ff⟩
  | tup ds =>
    cases e3
    obtain ⟨p, vs, rfl, hp, hi, et⟩ := hx2.tup u3.fh
    refine .inr (.inl ⟨p, vs, rfl, SqT.of hp, fun hw => ?_, fun hw z hz => q _ _ _ (Up.newF u3.fh hz) ?_⟩)
    · have ef : Is c.K F3 (.tup ds) (.ref p) := by
        cases o with
        | fz => exact hx2.is
        | bw =>
          simp only [Own] at hx2
          rcases hx2 with ⟨_, h⟩ | ⟨ds', p, vs, e1, _⟩ | ⟨ks, ds', p, kvs, e1, _⟩
          · exact h
          · cases e1
          · cases e1
        | _ => simp [Own] at hx2
      refine q _ F3 H3 (Up.refl u3.fh) ?_
      have e4 : cutG ds l r = ds := by
        unfold cutG
        rw [← hi.length, hw.1, hw.2, List.drop_zero, hi.length]
        simp
      rw [e4]; exact ef
    · simp only [Is]
      exact ⟨z, _, rfl, upd_same, (cutG_is hi).mono (Up.newF (o := .tup (cutV vs l r)) u3.fh hz).ff⟩
  | str z =>
    simp only [slD] at e3
    by_cases hz : z.length ≤ sizeLine
    · rw [if_pos hz] at e3
      cases e3
      have q1 := hx2.scal rfl
      simp only [Is] at q1
      exact .inr (.inr ⟨z, q1.1, hz, q _ F3 H3 (Up.refl u3.fh) (Is.str (strOk_cut q1.2))⟩)
    · rw [if_neg hz] at e3; cases e3
  | _ => simp [slD] at e3
/-! ### arguments, displays -/
def consL (r : Option R) (k : Option RL) : Option RL := match r with
  | some (.ok d) => (match k with
    | some (.ok ds) => some (.ok (d :: ds))
    | k => k)
  | some (.ex x) => some (.ex x)
  | none => none
theorem a_nil : PA X [] (tL c [] fun _ => some (.ok [])) := by
  refine PA.imp pa_nil fun σ H Q h => ?_
  obtain ⟨F, δ, E, h⟩ := h
  exact h [] F H (Up.refl E.fh) (by simp only [ViewL])
theorem a_cons {es : List Expr} {os : List OT} {fs : Env → Option RL} (he : PE X e (tV c ta fa)) (hr : PA X es (tL c os fs)) (ca : coe ta o = true) (hs : starEach (e :: es) X.env = (false, eval e X.env) :: starEach es X.env) :
    PA X (e :: es) (tL c (o :: os) fun δ => consL (fa δ) (fs δ)) := by
  refine PA.imp (pa_cons he hr hs) fun σ H Q h => ?_
  obtain ⟨F, δ, E, h⟩ := h
  change Gl' c (o :: os) F H σ Q (consL (fa δ) (fs δ)) at h
  refine ⟨F, δ, E, ?_⟩
  cases e1 : fa δ with
  | none => rw [e1] at h; exact h
  | some r =>
    rw [e1] at h
    cases r with
    | ex x => exact h
    | ok d =>
      intro v F1 H1 u p
      obtain ⟨F2, u2, s2, A, ow⟩ := p.coe u ca
      refine ⟨F2, δ, E.up u2, ?_⟩
      cases e2 : fs δ with
      | none => rw [e2] at h; exact h
      | some r =>
        rw [e2] at h
        cases r with
        | ex x => exact Bad.up h u2
        | ok ds =>
          intro vs F3 H3 u3 w
          refine h (v :: vs) F3 H3 (u2.trans u3) ?_
          simp only [ViewL]
          exact ⟨v, vs, rfl, ⟨A, ow.up u3⟩, w⟩
theorem ViewL.isL {K : PySem.W.Frag} : ∀ {os : List OT} {ds : List D} {vs : List V}, (∀ o ∈ os, o = .fz) → ViewL K F H os ds vs → IsL K F ds vs ∧ ds.length = os.length
  | [], [], _, _, h => ⟨h, rfl⟩
  | o :: os, d :: ds, _, k, h => by
    simp only [ViewL] at h
    obtain ⟨v, r, rfl, ⟨A, h1⟩, h2⟩ := h
    obtain ⟨h3, h4⟩ := ViewL.isL (fun o ho => k o (by simp [ho])) h2
    have e := k o (by simp)
    subst e
    exact ⟨⟨v, r, rfl, h1.is, h3⟩, by simp [h4]⟩
  | [], _ :: _, _, _, h => by simp [ViewL] at h
  | _ :: _, [], _, _, h => by simp [ViewL] at h
/-- the arguments ahead of the rest -/
theorem tL.go {os : List OT} {fs : Env → Option RL} {Q1 : List V → Hp → Prop} {Gd : Hp → Hp → Option R → Prop} {k : List D → Option R} (E : c.E F H σ δ)
    (hb : ∀ x, Gd F H (some (.ex x)) → Bad c F H σ x) (hn : ¬ Gd F H none) (hup : ∀ r F1 H1, Gd F H r → Up F H F1 H1 → Gd F1 H1 r) (h : Gd F H (bndL (fs δ) k))
    (hk : ∀ ds vs F1 H1, Up F H F1 H1 → c.E F1 H1 σ δ → ViewL c.K F1 H1 os ds vs → Gd F1 H1 (k ds) → Q1 vs H1) : tL c os fs σ H Q1 := by
  refine ⟨F, δ, E, ?_⟩
  cases e : fs δ with
  | none => rw [e] at h; exact (hn h).elim
  | some r =>
    rw [e] at h
    cases r with
    | ex x => exact hb x h
    | ok ds => exact fun vs F1 H1 u w => hk ds vs F1 H1 u (E.up u) w (hup _ _ _ h u)
theorem tL.goV {os : List OT} {fs : Env → Option RL} {Q1 : List V → Hp → Prop} {Q : VK} {k : List D → Option R} (E : c.E F H σ δ) (h : Gv c ty F H σ Q (bndL (fs δ) k))
    (hk : ∀ ds vs F1 H1, Up F H F1 H1 → c.E F1 H1 σ δ → ViewL c.K F1 H1 os ds vs → Gv c ty F1 H1 σ Q (k ds) → Q1 vs H1) : tL c os fs σ H Q1 :=
  tL.go (Gd := fun F H r => Gv c ty F H σ Q r) E (fun _ h => h) (fun h => h) (fun _ _ _ g u => g.up u) h hk
theorem s_tup {es : List Expr} {k : Nat} {os : List OT} {fs : Env → Option RL} (he : PA X es (tL c os fs)) (hf : ∀ o ∈ os, o = .fz) (hl : os.length ≤ 1000) :
    PE X (.Tuple es k pos) (tV c (.vw .fz) fun δ => bndL (fs δ) fun ds => some (.ok (.tup ds))) := by
  refine PE.imp (pe_tup he) fun σ H Q h => ?_
  obtain ⟨F, δ, E, h⟩ := h
  refine tL.goV E h fun ds vs F1 H1 u1 E1 w h1 => ?_
  obtain ⟨w1, w2⟩ := w.isL hf
  refine ⟨by rw [w1.length, w2]; exact Nat.le_trans hl (by decide), fun p hp => h1 _ _ _ (Up.newF u1.fh hp) ⟨[], Own.of_is ?_⟩⟩
  simp only [Is]
  exact ⟨p, vs, rfl, upd_same, w1.mono (Up.newF (o := .tup vs) u1.fh hp).ff⟩
theorem s_lst {es : List Expr} {os : List OT} {fs : Env → Option RL} (he : PA X es (tL c os fs)) (hf : ∀ o ∈ os, o = .fz) (hl : os.length ≤ 1000) :
    PE X (.List es pos) (tV c (.fr (.lst .fz)) fun δ => bndL (fs δ) fun ds => some (.ok (.lst ds))) := by
  refine PE.imp (pe_lst he) fun σ H Q h => ?_
  obtain ⟨F, δ, E, h⟩ := h
  refine tL.goV E h fun ds vs F1 H1 u1 E1 w h1 => ?_
  obtain ⟨w1, w2⟩ := w.isL hf
  refine ⟨by rw [w1.length, w2]; exact Nat.le_trans hl (by decide), fun p hp => h1 _ _ _ (Up.new u1.fh hp) ⟨[p], ?_, by simp, fun a ha => ?_⟩⟩
  · simp only [Own]
    exact ⟨p, vs, [], rfl, upd_same, OwnL.of_fz w1, rfl⟩
  · have e : a = p := by simpa using ha
    subst e
    refine ⟨hp, ?_⟩
    cases q : F1 a with
    | none => rfl
    | some u => rw [u1.fh _ _ q] at hp; cases hp
end Ev

set_option maxHeartbeats 4000000
/-! Ev, part F: the operators on data. -/
namespace Ev
open PySem PySem.Spec PyProof.Rows L2
variable {X : Cx} {c : Cp} {F G H F' G' H' : Hp} {σ : L2.St} {δ : Env} {a b e : Expr} {pos : Pos} {ta tb tc ty : Ty} {oa ob oc o : OT} {fa fb fc : Env → Option R}
/-! ### equality -/
mutual
def eqB : D → D → Bool
  | .non, .non => true
  | .bl a, .bl b => a == b
  | .bl a, .int j => decide ((if a then 1 else 0) = j)
  | .int i, .bl b => decide (i = if b then 1 else 0)
  | .int i, .int j => decide (i = j)
  | .str x, .str y => decide (x = y)
  | .tup xs, .tup ys => eqBs xs ys
  | .lst xs, .lst ys => eqBs xs ys
  | _, _ => false
def eqBs : List D → List D → Bool
  | [], [] => true
  | x :: xs, y :: ys => eqB x y && eqBs xs ys
  | _, _ => false
end
mutual
/-- data that == may meet: nested below n -/
def okD : Nat → D → Bool
  | _, .non => true
  | _, .bl _ => true
  | _, .int _ => true
  | _, .str _ => true
  | n + 1, .tup xs => okDs n xs
  | n + 1, .lst xs => okDs n xs
  | _, _ => false
def okDs : Nat → List D → Bool
  | _, [] => true
  | n, x :: xs => okD n x && okDs n xs
end
mutual
def pyOf : D → PyData
  | .bl b => .bool b
  | .int i => .int i
  | .str x => .str x
  | .tup xs => .tuple (pyOfs xs)
  | .lst xs => .list (pyOfs xs)
  | _ => .none
def pyOfs : List D → List PyData
  | [] => []
  | x :: xs => pyOf x :: pyOfs xs
end
mutual
theorem pyOf_ok {K : PySem.W.Frag} : ∀ {d : D} {n : Nat} {v : V}, okD n d = true → Is K H d v → Dp K H v (pyOf d) ∧ (pyOf d).canLay0 = true ∧ (pyOf d).depth ≤ n
  | .non, n, v, _, h => by simp only [Is] at h; subst h; exact ⟨.non, by simp [pyOf, PyData.canLay0], by simp [pyOf, PyData.depth]⟩
  | .bl b, n, v, _, h => by simp only [Is] at h; subst h; exact ⟨.bl b, by simp [pyOf, PyData.canLay0], by simp [pyOf, PyData.depth]⟩
  | .int i, n, v, _, h => by simp only [Is] at h; subst h; exact ⟨.int i, by simp [pyOf, PyData.canLay0], by simp [pyOf, PyData.depth]⟩
  | .str x, n, v, _, h => by
    simp only [Is] at h
    obtain ⟨rfl, h⟩ := h
    exact ⟨.str x, by simp [pyOf, PyData.canLay0, h], by simp [pyOf, PyData.depth]⟩
  | .tup xs, 0, v, e, h => by simp [okD] at e
  | .tup xs, n + 1, v, e, h => by
    simp only [okD] at e
    simp only [Is] at h
    obtain ⟨p, vs, rfl, hp, hi⟩ := h
    obtain ⟨h1, h2, h3⟩ := pyOfs_ok e hi
    exact ⟨.tup (SqT.of hp) h1, by simp only [pyOf, PyData.canLay0]; exact h2, by simp only [pyOf, PyData.depth]; omega⟩
  | .lst xs, 0, v, e, h => by simp [okD] at e
  | .lst xs, n + 1, v, e, h => by
    simp only [okD] at e
    simp only [Is] at h
    obtain ⟨p, vs, rfl, hp, hi⟩ := h
    obtain ⟨h1, h2, h3⟩ := pyOfs_ok e hi
    exact ⟨.lst (SqL.of hp) h1, by simp only [pyOf, PyData.canLay0]; exact h2, by simp only [pyOf, PyData.depth]; omega⟩
  | .dic _ _, _, _, e, _ => by simp [okD] at e
  | .ins _ _, _, _, e, _ => by simp [okD] at e
  | .lck _, _, _, e, _ => by simp [okD] at e
theorem pyOfs_ok {K : PySem.W.Frag} : ∀ {ds : List D} {n : Nat} {vs : List V}, okDs n ds = true → IsL K H ds vs → DpAll K H vs (pyOfs ds) ∧ PyData.canLayAll0 (pyOfs ds) = true ∧ PyData.depthAll (pyOfs ds) ≤ n
  | [], n, vs, _, h => by simp only [IsL] at h; subst h; exact ⟨.nil, by simp [pyOfs, PyData.canLayAll0], by simp [pyOfs, PyData.depthAll]⟩
  | d :: ds, n, vs, e, h => by
    simp only [okDs, Bool.and_eq_true] at e
    simp only [IsL] at h
    obtain ⟨v, r, rfl, h1, h2⟩ := h
    obtain ⟨a1, a2, a3⟩ := pyOf_ok e.1 h1
    obtain ⟨b1, b2, b3⟩ := pyOfs_ok e.2 h2
    exact ⟨.cons a1 b1, by simp [pyOfs, PyData.canLayAll0, a2, b2], by simp only [pyOfs, PyData.depthAll]; omega⟩
end
mutual
theorem eqB_py : ∀ {x y : D} {n m : Nat}, okD n x = true → okD m y = true → PyData.eqv (pyOf x) (pyOf y) = eqB x y
  | .non, y, n, m, _, k => by cases y <;> first | (simp [pyOf, PyData.eqv, eqB]; done) | (cases m <;> simp [okD] at k; done)
  | .bl a, y, n, m, _, k => by
    cases y <;> first
      | (simp only [pyOf, PyData.eqv, eqB]; done)
      | (simp [pyOf, PyData.eqv, eqB, Bool.beq_eq_decide_eq]; done)
      | (cases m <;> simp [okD] at k; done)
  | .int a, y, n, m, _, k => by
    cases y <;> first
      | (simp only [pyOf, PyData.eqv, eqB]; done)
      | (simp [pyOf, PyData.eqv, eqB, Bool.beq_eq_decide_eq]; done)
      | (cases m <;> simp [okD] at k; done)
  | .str a, y, n, m, _, k => by
    cases y <;> first
      | (simp only [pyOf, PyData.eqv, eqB]; done)
      | (simp [pyOf, PyData.eqv, eqB, Bool.beq_eq_decide_eq]; done)
      | (cases m <;> simp [okD] at k; done)
      | (simp only [pyOf, PyData.eqv, eqB]; rw [Bool.eq_iff_iff]; simp)
  | .tup xs, y, n, m, h, k => by
    cases n with
    | zero => simp [okD] at h
    | succ n =>
      simp only [okD] at h
      cases y <;> first
        | (cases m with
          | zero => simp [okD] at k; done
          | succ m =>
            simp only [okD] at k
            simp only [pyOf, PyData.eqv, eqB]
            exact eqBs_py h k)
        | (simp only [pyOf, PyData.eqv, eqB]; done)
        | (cases m <;> simp [okD] at k; done)
        | (cases m <;> (simp only [pyOf, PyData.eqv, eqB]; done))
  | .lst xs, y, n, m, h, k => by
    cases n with
    | zero => simp [okD] at h
    | succ n =>
      simp only [okD] at h
      cases y <;> first
        | (cases m with
          | zero => simp [okD] at k; done
          | succ m =>
            simp only [okD] at k
            simp only [pyOf, PyData.eqv, eqB]
            exact eqBs_py h k)
        | (simp only [pyOf, PyData.eqv, eqB]; done)
        | (cases m <;> simp [okD] at k; done)
        | (cases m <;> (simp only [pyOf, PyData.eqv, eqB]; done))
  | .dic _ _, _, n, _, h, _ => by cases n <;> simp [okD] at h
  | .ins _ _, _, n, _, h, _ => by cases n <;> simp [okD] at h
  | .lck _, _, n, _, h, _ => by cases n <;> simp [okD] at h
theorem eqBs_py : ∀ {xs ys : List D} {n m : Nat}, okDs n xs = true → okDs m ys = true → PyData.eqvAll (pyOfs xs) (pyOfs ys) = eqBs xs ys
  | [], [], _, _, _, _ => by simp [pyOfs, PyData.eqvAll, eqBs]
  | [], _ :: _, _, _, _, _ => by simp [pyOfs, PyData.eqvAll, eqBs]
  | _ :: _, [], _, _, _, _ => by simp [pyOfs, PyData.eqvAll, eqBs]
  | x :: xs, y :: ys, n, m, h, k => by
    simp only [okDs, Bool.and_eq_true] at h k
    simp only [pyOfs, PyData.eqvAll, eqBs]
    rw [eqB_py h.1 k.1, eqBs_py h.2 k.2]
end
def eqD (x y : D) : Option Bool := if okD 60 x && okD 60 y then some (eqB x y) else none
theorem shaped_of {d : D} {v : V} {K : PySem.W.Frag} (e : okD 60 d = true) (h : Is K H d v) : Dp K H v (pyOf d) ∧ SeqAt.shaped (pyOf d) = true := by
  obtain ⟨h1, h2, h3⟩ := pyOf_ok e h
  refine ⟨h1, ?_⟩
  unfold SeqAt.shaped
  rw [h2]
  simp only [Bool.true_and, decide_eq_true_eq]
  omega
theorem o_eq (hu : X.A.units + 64 < cLine) (hK : X.K = c.K) : OpS X c (compareOp .Eq) .bw .bw fun x y => (eqD x y).map D.bl := by
  refine ⟨_, op_eqD hu, fun F H x y dx dy d A B Q s hx hy e q => ?_⟩
  change (eqD dx dy).map D.bl = some d at e
  unfold eqD at e
  by_cases g : (okD 60 dx && okD 60 dy) = true
  · rw [if_pos g] at e
    cases e
    obtain ⟨g1, g2⟩ := Bool.and_eq_true_iff.mp g
    obtain ⟨a1, a2⟩ := shaped_of g1 (hx.see s)
    obtain ⟨b1, b2⟩ := shaped_of g2 (hy.see s)
    refine ⟨_, _, hK ▸ a1, hK ▸ b1, a2, b2, q _ F H (Up.refl s) ?_⟩
    rw [eqB_py g1 g2]
    simp only [Is]
  · rw [if_neg g] at e; cases e
theorem o_ne (hu : X.A.units + 64 < cLine) (hK : X.K = c.K) : OpS X c (compareOp .NotEq) .bw .bw fun x y => ((eqD x y).map (!·)).map D.bl := by
  refine ⟨_, op_neD hu, fun F H x y dx dy d A B Q s hx hy e q => ?_⟩
  change ((eqD dx dy).map (!·)).map D.bl = some d at e
  unfold eqD at e
  by_cases g : (okD 60 dx && okD 60 dy) = true
  · rw [if_pos g] at e
    cases e
    obtain ⟨g1, g2⟩ := Bool.and_eq_true_iff.mp g
    obtain ⟨a1, a2⟩ := shaped_of g1 (hx.see s)
    obtain ⟨b1, b2⟩ := shaped_of g2 (hy.see s)
    refine ⟨_, _, hK ▸ a1, hK ▸ b1, a2, b2, q _ F H (Up.refl s) ?_⟩
    rw [eqB_py g1 g2]
    simp only [Is]
  · rw [if_neg g] at e; cases e
/-! ### arithmetic -/
theorem Own.int {K : PySem.W.Frag} {i : Int} {v : V} {A : List Addr} (h : Own K F H .bw (.int i) v A) : v = .int i := by
  have q := h.scal rfl
  simpa only [Is] using q
theorem Own.strV {K : PySem.W.Frag} {x : Str} {v : V} {A : List Addr} (h : Own K F H .bw (.str x) v A) : v = .str x ∧ PyData.strOk x = true := by
  have q := h.scal rfl
  simpa only [Is] using q
theorem strOk_app {x y : Str} (h : PyData.strOk x = true) (k : PyData.strOk y = true) : PyData.strOk (x ++ y) = true := by
  rw [strOk_iff] at h k ⊢
  intro q hq
  have e : (x ++ y).cps.toList = x.cps.toList ++ y.cps.toList := by
    show (x.cps ++ y.cps).toList = _
    simp
  rw [e] at hq
  rcases List.mem_append.mp hq with z | z
  · exact h q z
  · exact k q z
def addD (x y : D) : Option D := match x, y with
  | .int i, .int j => some (.int (i + j))
  | .str x, .str y => if x.length + y.length ≤ sizeLine then some (.str (x ++ y)) else none
  | .lst xs, .lst ys => if xs.length + ys.length ≤ sizeLine then some (.lst (xs ++ ys)) else none
  | .tup xs, .tup ys => if xs.length + ys.length ≤ sizeLine then some (.tup (xs ++ ys)) else none
  | _, _ => none
theorem Own.tupIs {K : PySem.W.Frag} {ds : List D} {v : V} {A : List Addr} (h : Own K F H .bw (.tup ds) v A) : Is K F (.tup ds) v := h.scal rfl
theorem o_add : OpS X c (binaryOp .Add) .bw .bw addD := by
  refine ⟨_, op_add.or (op_add_str.or (op_cat.or op_catA)), fun F H x y dx dy d A B Q s hx hy e q => ?_⟩
  cases dx with
  | int i =>
    cases dy with
    | int j =>
      cases e
      exact .inl ⟨i, j, hx.int, hy.int, q _ F H (Up.refl s) (by simp only [Is])⟩
    | _ => simp [addD] at e
  | str z =>
    cases dy with
    | str w =>
      simp only [addD] at e
      by_cases g : z.length + w.length ≤ sizeLine
      · rw [if_pos g] at e
        cases e
        exact .inr (.inl ⟨z, w, hx.strV.1, hy.strV.1, g, q _ F H (Up.refl s) (Is.str (strOk_app hx.strV.2 hy.strV.2))⟩)
      · rw [if_neg g] at e; cases e
    | _ => simp [addD] at e
  | lst xs =>
    cases dy with
    | lst ys =>
      simp only [addD] at e
      by_cases g : xs.length + ys.length ≤ sizeLine
      · rw [if_pos g] at e
        cases e
        obtain ⟨p, vs, rfl, hp, hi⟩ := hx.lstF rfl s
        obtain ⟨p', ws, rfl, hp', hi'⟩ := hy.lstF rfl s
        refine .inr (.inr (.inl ⟨p, p', vs, ws, rfl, rfl, hp, hp', by rw [hi.length, hi'.length]; exact g, fun l hl => q _ _ _ (Up.newF s hl) ?_⟩))
        simp only [Is]
        exact ⟨l, _, rfl, upd_same, (hi.append hi').mono (Up.newF (o := .lst (vs ++ ws)) s hl).ff⟩
      · rw [if_neg g] at e; cases e
    | _ => simp [addD] at e
  | tup xs =>
    cases dy with
    | tup ys =>
      simp only [addD] at e
      by_cases g : xs.length + ys.length ≤ sizeLine
      · rw [if_pos g] at e
        cases e
        obtain ⟨p, vs, rfl, hp, hi, _⟩ := hx.tup s
        obtain ⟨p', ws, rfl, hp', hi', _⟩ := hy.tup s
        refine .inr (.inr (.inr ⟨p, p', vs, ws, rfl, rfl, SqT.of hp, SqT.of hp', by rw [hi.length, hi'.length]; exact g, fun z => ?_, fun _ z => ?_, fun _ _ l hl => q _ _ _ (Up.newF s hl) ?_⟩))
        · refine q _ F H (Up.refl s) ?_
          have : xs = [] := by
            have := hi.length; rw [z] at this
            exact List.length_eq_zero_iff.mp this.symm
          rw [this]; exact hy.tupIs
        · refine q _ F H (Up.refl s) ?_
          have : ys = [] := by
            have := hi'.length; rw [z] at this
            exact List.length_eq_zero_iff.mp this.symm
          rw [this, List.append_nil]; exact hx.tupIs
        · simp only [Is]
          exact ⟨l, _, rfl, upd_same, (hi.append hi').mono (Up.newF (o := .tup (vs ++ ws)) s hl).ff⟩
      · rw [if_neg g] at e; cases e
    | _ => simp [addD] at e
  | _ => simp [addD] at e
def subD (x y : D) : Option D := match x, y with
  | .int i, .int j => some (.int (i - j))
  | _, _ => none
theorem o_sub : OpS X c (binaryOp .Sub) .bw .bw subD := by
  refine ⟨_, op_sub, fun F H x y dx dy d A B Q s hx hy e q => ?_⟩
  cases dx with
  | int i =>
    cases dy with
    | int j =>
      cases e
      exact ⟨i, j, hx.int, hy.int, q _ F H (Up.refl s) (by simp only [Is])⟩
    | _ => simp [subD] at e
  | _ => simp [subD] at e
def smallI (i : Int) : Bool := decide (-(2 ^ 64) < i ∧ i < 2 ^ 64)
def mulD (x y : D) : Option D := match x, y with
  | .int i, .int j => if smallI i || smallI j then some (.int (i * j)) else none
  | .str x, .int j => if decide (0 ≤ j) && decide (j ≤ 1000) && decide (x.length ≤ 1000) then some (.str (Txt.mul x j)) else none
  | _, _ => none
theorem foldl_app (x : Array Nat) : ∀ (n : Nat) (a : Array Nat), ((List.replicate n x).foldl (· ++ ·) a).toList = a.toList ++ (List.replicate n x.toList).flatten
  | 0, a => by simp
  | n + 1, a => by
    rw [List.replicate_succ, List.foldl_cons, foldl_app x n, List.replicate_succ, List.flatten_cons]
    simp
theorem strOk_mul {x : Str} {n : Int} (h : PyData.strOk x = true) : PyData.strOk (Txt.mul x n) = true := by
  unfold Txt.mul
  by_cases h1 : n < 1
  · rw [if_pos h1]; decide +kernel
  · rw [if_neg h1]
    by_cases h2 : (n == 1 || x.length == 0) = true
    · rw [if_pos h2]; exact h
    · rw [if_neg h2, strOk_iff]
      rw [strOk_iff] at h
      intro q hq
      rw [show ((⟨(List.replicate n.toNat x.cps).foldl (· ++ ·) #[]⟩ : Str)).cps = (List.replicate n.toNat x.cps).foldl (· ++ ·) #[] from rfl, foldl_app] at hq
      simp only [List.nil_append, List.mem_flatten, List.mem_replicate, Array.toList_empty] at hq
      obtain ⟨l, ⟨_, rfl⟩, hl⟩ := hq
      exact h q hl
theorem op_mul_str {X : Cx} : OpR X (binaryOp .Mult) (fun x y H Q => ∃ z j, x = .str z ∧ y = .int j ∧ MulOk z j ∧ Q (.str (Txt.mul z j)) H) := by
  intro pins s σ H x y v u Q I rx ry h
  obtain ⟨z, j, rfl, rfl, ok, q⟩ := h
  obtain ⟨t, rfl⟩ := rx
  obtain ⟨t', rfl⟩ := ry
  exact SB.mul ok fun t k => ⟨.str _, H, I.tok _, ⟨_, rfl⟩, q⟩
theorem mulOk_small {x : Str} {n : Int} (h0 : 0 ≤ n) (h1 : n ≤ 1000) (h2 : x.length ≤ 1000) : MulOk x n := by
  refine ⟨?_, fun h h' => ?_, fun h h' => ?_⟩
  · rw [Bool.or_eq_false_iff]
    exact ⟨decide_eq_false (by omega), decide_eq_false (by omega)⟩
  · have : (1000 : Int) ≤ (2 ^ 63 - 1) / n := by
      rw [Int.le_ediv_iff_mul_le (by omega)]
      omega
    omega
  · unfold Builtin.Str.tooLong
    have : x.length * n.toNat ≤ 1000 * 1000 := Nat.mul_le_mul h2 (by omega)
    first
      | (apply decide_eq_false; rw [sizeLine_eq]; omega)
      | (simp; omega)
theorem o_mul : OpS X c (binaryOp .Mult) .bw .bw mulD := by
  refine ⟨_, op_mul.or op_mul_str, fun F H x y dx dy d A B Q s hx hy e q => ?_⟩
  cases dx with
  | int i =>
    cases dy with
    | int j =>
      simp only [mulD] at e
      by_cases g : (smallI i || smallI j) = true
      · rw [if_pos g] at e
        cases e
        refine .inl ⟨i, j, hx.int, hy.int, ?_, q _ F H (Up.refl s) (by simp only [Is])⟩
        rcases Bool.or_eq_true_iff.mp g with z | z
        · exact .inl (of_decide_eq_true z)
        · exact .inr (of_decide_eq_true z)
      · rw [if_neg g] at e; cases e
    | _ => simp [mulD] at e
  | str z =>
    cases dy with
    | int j =>
      simp only [mulD] at e
      by_cases g : (decide (0 ≤ j) && decide (j ≤ 1000) && decide (z.length ≤ 1000)) = true
      · rw [if_pos g] at e
        cases e
        obtain ⟨g1, g3⟩ := Bool.and_eq_true_iff.mp g
        obtain ⟨g1, g2⟩ := Bool.and_eq_true_iff.mp g1
        exact .inr ⟨z, j, hx.strV.1, hy.int, mulOk_small (of_decide_eq_true g1) (of_decide_eq_true g2) (of_decide_eq_true g3), q _ F H (Up.refl s) (Is.str (strOk_mul hx.strV.2))⟩
      · rw [if_neg g] at e; cases e
    | _ => simp [mulD] at e
  | _ => simp [mulD] at e
def divD (x y : D) : Option D := match x, y with
  | .int i, .int j => if decide (0 < j) && decide (j < 1073741824) then some (.int (i / j)) else none
  | _, _ => none
theorem o_div : OpS X c (binaryOp .FloorDiv) .bw .bw divD := by
  refine ⟨_, op_fdiv, fun F H x y dx dy d A B Q s hx hy e q => ?_⟩
  cases dx with
  | int i =>
    cases dy with
    | int j =>
      simp only [divD] at e
      by_cases g : (decide (0 < j) && decide (j < 1073741824)) = true
      · rw [if_pos g] at e
        cases e
        obtain ⟨g1, g2⟩ := Bool.and_eq_true_iff.mp g
        exact ⟨i, j, hx.int, hy.int, ⟨of_decide_eq_true g1, of_decide_eq_true g2⟩, q _ F H (Up.refl s) (by simp only [Is])⟩
      · rw [if_neg g] at e; cases e
    | _ => simp [divD] at e
  | _ => simp [divD] at e
def modD (x y : D) : Option D := match x, y with
  | .int i, .int j => if decide (0 < j) then some (.int (i % j)) else none
  | _, _ => none
theorem o_mod : OpS X c (binaryOp .Mod) .bw .bw modD := by
  refine ⟨_, op_mod, fun F H x y dx dy d A B Q s hx hy e q => ?_⟩
  cases dx with
  | int i =>
    cases dy with
    | int j =>
      simp only [modD] at e
      by_cases g : (decide (0 < j)) = true
      · rw [if_pos g] at e
        cases e
        exact ⟨i, j, hx.int, hy.int, of_decide_eq_true g, q _ F H (Up.refl s) (by simp only [Is])⟩
      · rw [if_neg g] at e; cases e
    | _ => simp [modD] at e
  | _ => simp [modD] at e
def powD (x y : D) : Option D := match x, y with
  | .int i, .int j => if decide (0 ≤ j) && decide (j ≤ 100) && decide (i.natAbs < 2 ^ 64) then some (.int (i ^ j.toNat)) else none
  | _, _ => none
theorem o_pow : OpS X c (binaryOp .Pow) .bw .bw powD := by
  refine ⟨_, op_pow, fun F H x y dx dy d A B Q s hx hy e q => ?_⟩
  cases dx with
  | int i =>
    cases dy with
    | int j =>
      simp only [powD] at e
      by_cases g : (decide (0 ≤ j) && decide (j ≤ 100) && decide (i.natAbs < 2 ^ 64)) = true
      · rw [if_pos g] at e
        cases e
        obtain ⟨g1, g3⟩ := Bool.and_eq_true_iff.mp g
        obtain ⟨g1, g2⟩ := Bool.and_eq_true_iff.mp g1
        have g2 := of_decide_eq_true g2
        exact ⟨i, j, hx.int, hy.int, ⟨of_decide_eq_true g1, by omega, of_decide_eq_true g3⟩, q _ F H (Up.refl s) (by simp only [Is])⟩
      · rw [if_neg g] at e; cases e
    | _ => simp [powD] at e
  | _ => simp [powD] at e
/-! ### comparisons of ints -/
def cmpI (p : Int → Int → Bool) (x y : D) : Option Bool := match x, y with
  | .int i, .int j => some (p i j)
  | _, _ => none
theorem o_cmpI {g : Value → Value → Sem Value} {p : Int → Int → Bool} (h : OpR X g (rI0 fun i j => .bl (p i j))) : OpS X c g .bw .bw fun x y => (cmpI p x y).map D.bl := by
  refine ⟨_, h, fun F H x y dx dy d A B Q s hx hy e q => ?_⟩
  cases dx with
  | int i =>
    cases dy with
    | int j =>
      cases e
      exact ⟨i, j, hx.int, hy.int, q _ F H (Up.refl s) (by simp only [Is])⟩
    | _ => simp [cmpI] at e
  | _ => simp [cmpI] at e
/-- is None, is not None -/
def isN (x y : D) : Option Bool := match x, y with
  | .non, .non => some true
  | _, .non => some false
  | _, _ => none
theorem isN_ok {K : PySem.W.Frag} {d : D} {v : V} (h : Is K H d v) : isN d .non = some (decide (v = .non)) := by
  cases d <;> simp only [Is] at h <;> first
    | (subst h; rfl)
    | (obtain ⟨rfl, _⟩ := h; rfl)
    | (obtain ⟨_, _, rfl, _⟩ := h; rfl)
    | (obtain ⟨_, _, _, rfl, _⟩ := h; rfl)
    | (obtain ⟨_, rfl, _⟩ := h; rfl)
theorem isN_y {x y : D} {k : Bool} (h : isN x y = some k) : y = .non := by
  cases y <;> first | rfl | (cases x <;> simp [isN] at h)
theorem o_is : OpS X c (compareOp .Is) .bw .bw fun x y => (isN x y).map D.bl := by
  refine ⟨_, op_isN, fun F H x y dx dy d A B Q s hx hy e q => ?_⟩
  change (isN dx dy).map D.bl = some d at e
  cases g : isN dx dy with
  | none => rw [g] at e; cases e
  | some k =>
    rw [g] at e; cases e
    have e2 := isN_y g
    subst e2
    have q2 := hy.scal rfl
    simp only [Is] at q2
    have e3 := isN_ok (hx.see s)
    rw [g] at e3
    exact ⟨q2, q _ F H (Up.refl s) (by simp only [Is]; rw [← Option.some.inj e3])⟩
theorem o_isnot : OpS X c (compareOp .IsNot) .bw .bw fun x y => ((isN x y).map (!·)).map D.bl := by
  refine ⟨_, op_notN, fun F H x y dx dy d A B Q s hx hy e q => ?_⟩
  change ((isN dx dy).map (!·)).map D.bl = some d at e
  cases g : isN dx dy with
  | none => rw [g] at e; cases e
  | some k =>
    rw [g] at e; cases e
    have e2 := isN_y g
    subst e2
    have q2 := hy.scal rfl
    simp only [Is] at q2
    have e3 := isN_ok (hx.see s)
    rw [g] at e3
    exact ⟨q2, q _ F H (Up.refl s) (by simp only [Is]; rw [← Option.some.inj e3])⟩
end Ev

set_option maxHeartbeats 4000000
/-! Ev, part G: in, built-in functions, fields, calls. -/
namespace Ev
open PySem PySem.Spec PyProof.Rows L2
variable {X : Cx} {c : Cp} {F G H F' G' H' : Hp} {σ : L2.St} {δ : Env} {a b e : Expr} {pos : Pos} {ta tb tc ty : Ty} {oa ob oc o : OT} {fa fb fc : Env → Option R}
/-! ### in -/
def inS (x y : D) : Option Bool := match y with
  | .lst ds => if okD 59 x && okDs 59 ds then some (ds.any fun z => eqB z x) else none
  | .tup ds => if okD 59 x && okDs 59 ds then some (ds.any fun z => eqB z x) else none
  | .str z => (match x with
    | .str w => (match w.cps.toList with
      | [q] => some (decide (q ∈ z.cps.toList))
      | _ => none)
    | _ => none)
  | _ => none
def inD (x y : D) : Option Bool := match y with
  | .dic ks ds => (keyD x).map fun k => ks.any fun j => decide (j = k)
  | y => inS x y
theorem op_inTD {X : Cx} (hu : X.A.units + 65 < cLine) : OpR X (compareOp .In) (fun x y H Q => ∃ d ds, Dp X.K H x d ∧ Dp X.K H y (.tuple ds) ∧ SeqAt.shaped d = true ∧ SeqAt.shaped (.tuple ds) = true ∧ Q (.bl (ds.any fun z => PyData.eqv z d)) H) := by
  intro pins s σ H x y v u Q I rx ry h
  obtain ⟨d, ds, hd, he, sd, se, q⟩ := h
  obtain ⟨as, r1⟩ := Dp.reads I d x v hd rx
  obtain ⟨bs, r2⟩ := Dp.reads I (.tuple ds) y u he ry
  exact SeqAt.in_tuple_reads r2 r1 (SeqAt.canLay_of_shaped se) (SeqAt.canLay_of_shaped sd) (room_in_shaped sd hu) ⟨.bl _, H, I, rfl, q⟩
theorem op_notInTD {X : Cx} (hu : X.A.units + 65 < cLine) : OpR X (compareOp .NotIn) (fun x y H Q => ∃ d ds, Dp X.K H x d ∧ Dp X.K H y (.tuple ds) ∧ SeqAt.shaped d = true ∧ SeqAt.shaped (.tuple ds) = true ∧ Q (.bl (!ds.any fun z => PyData.eqv z d)) H) := by
  intro pins s σ H x y v u Q I rx ry h
  obtain ⟨d, ds, hd, he, sd, se, q⟩ := h
  obtain ⟨as, r1⟩ := Dp.reads I d x v hd rx
  obtain ⟨bs, r2⟩ := Dp.reads I (.tuple ds) y u he ry
  exact SeqAt.notIn_tuple_reads r2 r1 (SeqAt.canLay_of_shaped se) (SeqAt.canLay_of_shaped sd) (room_in_shaped sd hu) ⟨.bl _, H, I, rfl, q⟩
theorem okDs_get : ∀ {n : Nat} {ds : List D}, okDs n ds = true → ∀ d ∈ ds, okD n d = true
  | n, [], _, d, h => by cases h
  | n, x :: xs, k, d, h => by
    simp only [okDs, Bool.and_eq_true] at k
    rcases List.mem_cons.mp h with rfl | h
    · exact k.1
    · exact okDs_get k.2 d h
theorem any_py {x : D} {n m : Nat} : ∀ {ds : List D}, okDs n ds = true → okD m x = true → ((pyOfs ds).any fun z => PyData.eqv z (pyOf x)) = ds.any fun z => eqB z x
  | [], _, _ => rfl
  | d :: ds, h, k => by
    simp only [okDs, Bool.and_eq_true] at h
    simp only [pyOfs, List.any_cons]
    rw [eqB_py h.1 k, any_py h.2 k]
mutual
theorem okD_mono : ∀ {d : D} {n m : Nat}, okD n d = true → n ≤ m → okD m d = true
  | .non, _, _, _, _ => by simp [okD]
  | .bl _, _, _, _, _ => by simp [okD]
  | .int _, _, _, _, _ => by simp [okD]
  | .str _, _, _, _, _ => by simp [okD]
  | .tup xs, 0, _, h, _ => by simp [okD] at h
  | .tup xs, n + 1, 0, h, l => by omega
  | .tup xs, n + 1, m + 1, h, l => by simp only [okD] at h ⊢; exact okDs_mono h (by omega)
  | .lst xs, 0, _, h, _ => by simp [okD] at h
  | .lst xs, n + 1, 0, h, l => by omega
  | .lst xs, n + 1, m + 1, h, l => by simp only [okD] at h ⊢; exact okDs_mono h (by omega)
  | .dic _ _, n, _, h, _ => by cases n <;> simp [okD] at h
  | .ins _ _, n, _, h, _ => by cases n <;> simp [okD] at h
  | .lck _, n, _, h, _ => by cases n <;> simp [okD] at h
theorem okDs_mono : ∀ {ds : List D} {n m : Nat}, okDs n ds = true → n ≤ m → okDs m ds = true
  | [], _, _, _, _ => by simp [okDs]
  | x :: xs, n, m, h, l => by
    simp only [okDs, Bool.and_eq_true] at h ⊢
    exact ⟨okD_mono h.1 l, okDs_mono h.2 l⟩
end
theorem sign_of {w : Str} {q : Nat} (h : w.cps.toList = [q]) : w = ⟨#[q]⟩ := by
  obtain ⟨a⟩ := w
  have : a = #[q] := by
    apply Array.toList_inj.mp
    rw [h]
  rw [this]
/-- the rule for what is no dict -/
theorem o_in (hu : X.A.units + 65 < cLine) (hK : X.K = c.K) : OpS X c (compareOp .In) .bw .bw fun x y => (inS x y).map D.bl := by
  refine ⟨_, (op_inD hu).or ((op_inTD hu).or op_in_sign), fun F H x y dx dy d A B Q s hx hy e q => ?_⟩
  change (inS dx dy).map D.bl = some d at e
  cases dy with
  | lst ds =>
    simp only [inS] at e
    by_cases g : (okD 59 dx && okDs 59 ds) = true
    · rw [if_pos g] at e
      cases e
      obtain ⟨g1, g2⟩ := Bool.and_eq_true_iff.mp g
      obtain ⟨a1, a2⟩ := shaped_of (okD_mono g1 (by omega)) (hx.see s)
      obtain ⟨b1, b2⟩ := shaped_of (d := .lst ds) (by simp only [okD]; exact g2) (hy.see s)
      refine .inl ⟨pyOf dx, pyOfs ds, hK ▸ a1, hK ▸ (by simpa only [pyOf] using b1), a2, by simpa only [pyOf] using b2, q _ F H (Up.refl s) ?_⟩
      rw [any_py g2 g1]
      simp only [Is]
    · rw [if_neg g] at e; cases e
  | tup ds =>
    simp only [inS] at e
    by_cases g : (okD 59 dx && okDs 59 ds) = true
    · rw [if_pos g] at e
      cases e
      obtain ⟨g1, g2⟩ := Bool.and_eq_true_iff.mp g
      obtain ⟨a1, a2⟩ := shaped_of (okD_mono g1 (by omega)) (hx.see s)
      obtain ⟨b1, b2⟩ := shaped_of (d := .tup ds) (by simp only [okD]; exact g2) (hy.see s)
      refine .inr (.inl ⟨pyOf dx, pyOfs ds, hK ▸ a1, hK ▸ (by simpa only [pyOf] using b1), a2, by simpa only [pyOf] using b2, q _ F H (Up.refl s) ?_⟩)
      rw [any_py g2 g1]
      simp only [Is]
    · rw [if_neg g] at e; cases e
  | str z =>
    cases dx with
    | str w =>
      simp only [inS] at e
      split at e
      · rename_i r hr
        cases e
        refine .inr (.inr ⟨r, z, ?_, hy.strV.1, q _ F H (Up.refl s) (by simp only [Is])⟩)
        rw [← sign_of hr]
        exact hx.strV.1
      · cases e
    | _ => simp [inS] at e
  | _ => simp [inS] at e
theorem o_notin (hu : X.A.units + 65 < cLine) (hK : X.K = c.K) : OpS X c (compareOp .NotIn) .bw .bw fun x y => ((inS x y).map (!·)).map D.bl := by
  refine ⟨_, (op_notInD hu).or ((op_notInTD hu).or op_notIn_sign), fun F H x y dx dy d A B Q s hx hy e q => ?_⟩
  change ((inS dx dy).map (!·)).map D.bl = some d at e
  cases dy with
  | lst ds =>
    simp only [inS] at e
    by_cases g : (okD 59 dx && okDs 59 ds) = true
    · rw [if_pos g] at e
      cases e
      obtain ⟨g1, g2⟩ := Bool.and_eq_true_iff.mp g
      obtain ⟨a1, a2⟩ := shaped_of (okD_mono g1 (by omega)) (hx.see s)
      obtain ⟨b1, b2⟩ := shaped_of (d := .lst ds) (by simp only [okD]; exact g2) (hy.see s)
      refine .inl ⟨pyOf dx, pyOfs ds, hK ▸ a1, hK ▸ (by simpa only [pyOf] using b1), a2, by simpa only [pyOf] using b2, q _ F H (Up.refl s) ?_⟩
      rw [any_py g2 g1]
      simp only [Is]
    · rw [if_neg g] at e; cases e
  | tup ds =>
    simp only [inS] at e
    by_cases g : (okD 59 dx && okDs 59 ds) = true
    · rw [if_pos g] at e
      cases e
      obtain ⟨g1, g2⟩ := Bool.and_eq_true_iff.mp g
      obtain ⟨a1, a2⟩ := shaped_of (okD_mono g1 (by omega)) (hx.see s)
      obtain ⟨b1, b2⟩ := shaped_of (d := .tup ds) (by simp only [okD]; exact g2) (hy.see s)
      refine .inr (.inl ⟨pyOf dx, pyOfs ds, hK ▸ a1, hK ▸ (by simpa only [pyOf] using b1), a2, by simpa only [pyOf] using b2, q _ F H (Up.refl s) ?_⟩)
      rw [any_py g2 g1]
      simp only [Is]
    · rw [if_neg g] at e; cases e
  | str z =>
    cases dx with
    | str w =>
      simp only [inS] at e
      split at e
      · rename_i r hr
        cases e
        refine .inr (.inr ⟨r, z, ?_, hy.strV.1, q _ F H (Up.refl s) (by simp only [Is])⟩)
        rw [← sign_of hr]
        exact hx.strV.1
      · cases e
    | _ => simp [inS] at e
  | _ => simp [inS] at e
theorem valV_isSome {k : Key} : ∀ {kvs : List (Key × V)}, (valV kvs k).isSome = (kvs.map (·.1)).any fun j => decide (j = k)
  | [] => by simp [valV]
  | (j, w) :: r => by
    by_cases h : j = k
    · rw [valV_pos (p := (j, w)) h]; simp [h]
    · rw [valV_neg (p := (j, w)) h, valV_isSome (kvs := r)]
      simp [h]
theorem PT.or {t t' : TT} (h : PT X e t) (h' : PT X e t') : PT X e (fun σ H Q => t σ H Q ∨ t' σ H Q) := ⟨fun pins s σ H Q I q => by
  rcases q with q | q
  · exact h.run pins s σ H Q I q
  · exact h'.run pins s σ H Q I q⟩
/-- x in d, x not in d: neg tells which -/
def inN (neg : Bool) (x y : D) : Option Bool := if neg then (inD x y).map (!·) else inD x y
def opIn (neg : Bool) : CmpOp := if neg then .NotIn else .In
theorem inN_S {neg : Bool} {x y : D} (h : ¬ ∃ ks ds, y = .dic ks ds) : inN neg x y = if neg then (inS x y).map (!·) else inS x y := by
  unfold inN
  have : inD x y = inS x y := by
    cases y <;> first | rfl | exact (h ⟨_, _, rfl⟩).elim
  rw [this]
theorem o_inN (neg : Bool) (hu : X.A.units + 65 < cLine) (hK : X.K = c.K) : OpS X c (compareOp (opIn neg)) .bw .bw fun x y => (if neg then (inS x y).map (!·) else inS x y).map D.bl := by
  cases neg with
  | true => exact o_notin hu hK
  | false => exact o_in hu hK
/-- the dict's part -/
theorem pc_inN (neg : Bool) {ty td : TE} (hu : X.A.units + 1 < cLine) (hi : PE X a ty) (ho : PE X b td) : PC X (opIn neg) a b (fun σ H Q => ty σ H fun y H1 => td σ H1 fun x H2 => ∃ p o, x = .ref p ∧ DGet H2 p y o ∧ Q (.bl (if neg then !o.isSome else o.isSome)) H2) := by
  cases neg with
  | true => exact pc_dnotin hu hi ho
  | false => exact pc_din hu hi ho
theorem dict_in {neg : Bool} {ks : List Key} {ds : List D} {dx : D} {x y : V} {k : Bool} {A B : List Addr} {P : Bool → Hp → Prop} (s : Same F H) (hx : Own c.K F H .bw dx x A) (hy : Own c.K F H .bw (.dic ks ds) y B) (e : inN neg dx (.dic ks ds) = some k)
    (q : P k H) : ∃ p o, y = .ref p ∧ DGet H p x o ∧ P (if neg then !o.isSome else o.isSome) H := by
  obtain ⟨p, kvs, rfl, hp, rfl, hl, _⟩ := hy.dict s
  cases e4 : keyD dx with
  | none => cases neg <;> simp [inN, inD, e4] at e
  | some j =>
    have hx2 := keyD_is e4 (hx.see s)
    subst hx2
    refine ⟨p, _, rfl, DGet.k hp, ?_⟩
    rw [valV_isSome]
    cases neg with
    | true =>
      simp only [inN, inD, e4] at e
      cases e
      exact q
    | false =>
      simp only [inN, inD, e4] at e
      cases e
      exact q
theorem s_in {neg : Bool} (hu : X.A.units + 65 < cLine) (hK : X.K = c.K) (ha : PE X a (tV c ta fa)) (hb : PE X b (tV c tb fb)) (ca : coe ta .bw = true) (cb : coe tb .bw = true) (hm : behindInMarks (opIn neg) b = false) :
    PE X (.Compare a [opIn neg] [b] pos) (tV c (.vw .fz) fun δ => bnd (fa δ) fun x => bnd (fb δ) fun y => okB (inN neg x y)) := by
  obtain ⟨r, hr, hf⟩ := o_inN (c := c) neg hu hK
  refine PE.imp (PE.or (pe_cmpR hr ha hb hm) (pe_cmp (pc_inN neg (by omega) ha hb) hm)) fun σ H Q h => ?_
  obtain ⟨F, δ, E, h⟩ := h
  have cases2 : (∃ ks ds, fb δ = some (.ok (.dic ks ds))) ∨ ¬ ∃ ks ds, fb δ = some (.ok (.dic ks ds)) := Classical.em _
  rcases cases2 with ⟨ks, ds, hd⟩ | hd
  · refine .inr (tV.goV ca E h fun dx x F1 H1 u1 E1 hx h1 => ?_)
    refine tV.go (Gd := fun F H r => Gv c (.vw .fz) F H σ Q r) cb E1 (fun _ h => h) (fun h => h) (fun _ _ _ g u => g.up u) h1 fun dy y F2 H2 e2 u2 E2 hy h2 => ?_
    rw [hd] at e2; cases e2
    obtain ⟨A, hx⟩ := hx
    obtain ⟨B, hy⟩ := hy
    obtain ⟨k, e, q⟩ := h2.okB
    exact dict_in (P := fun k H => Q (.bl k) H) u2.fh (hx.up u2) hy e (q F2 H2 (Up.refl u2.fh))
  · refine .inl (tV.goV ca E h fun dx x F1 H1 u1 E1 hx h1 => ?_)
    refine tV.go (Gd := fun F H r => Gv c (.vw .fz) F H σ Q r) cb E1 (fun _ h => h) (fun h => h) (fun _ _ _ g u => g.up u) h1 fun dy y F2 H2 e2 u2 E2 hy h2 => ?_
    obtain ⟨A, hx⟩ := hx
    obtain ⟨B, hy⟩ := hy
    obtain ⟨k, e, q⟩ := h2.okB
    rw [inN_S (fun ⟨ks, ds, z⟩ => hd ⟨ks, ds, by rw [e2, z]⟩)] at e
    refine hf F2 H2 x y dx dy (.bl k) A B Q u2.fh (hx.up u2) hy (by show (if neg = true then _ else _ : Option Bool).map D.bl = _; rw [e]; rfl) fun v F' H' u i => ?_
    simp only [Is] at i
    rw [i]; exact q F' H' u
theorem t_in {neg : Bool} (hu : X.A.units + 65 < cLine) (hK : X.K = c.K) (ha : PE X a (tV c ta fa)) (hb : PE X b (tV c tb fb)) (ca : coe ta .bw = true) (cb : coe tb .bw = true) (hm : behindInMarks (opIn neg) b = false) :
    PT X (.Compare a [opIn neg] [b] pos) (tT c fun δ => bnd (fa δ) fun x => bnd (fb δ) fun y => okB (inN neg x y)) := by
  obtain ⟨r, hr, hf⟩ := o_inN (c := c) neg hu hK
  refine PT.imp (PT.or (pt_cmpR hr ha hb hm) (pt_cmp (pc_inN neg (by omega) ha hb) hm)) fun σ H Q h => ?_
  obtain ⟨F, δ, E, h⟩ := h
  have cases2 : (∃ ks ds, fb δ = some (.ok (.dic ks ds))) ∨ ¬ ∃ ks ds, fb δ = some (.ok (.dic ks ds)) := Classical.em _
  rcases cases2 with ⟨ks, ds, hd⟩ | hd
  · refine .inr (tV.goT ca E h fun dx x F1 H1 u1 E1 hx h1 => ?_)
    refine tV.go (Gd := fun F H r => Gt c F H σ Q r) cb E1 (fun _ h => h) (fun h => h) (fun _ _ _ g u => g.up u) h1 fun dy y F2 H2 e2 u2 E2 hy h2 => ?_
    rw [hd] at e2; cases e2
    obtain ⟨A, hx⟩ := hx
    obtain ⟨B, hy⟩ := hy
    obtain ⟨k, e, q⟩ := h2.okB
    refine dict_in (P := fun k H => ∃ c, V.bl k = .bl c ∧ Q c H) u2.fh (hx.up u2) hy e ⟨k, rfl, q F2 H2 (Up.refl u2.fh)⟩
  · refine .inl (tV.goT ca E h fun dx x F1 H1 u1 E1 hx h1 => ?_)
    refine tV.go (Gd := fun F H r => Gt c F H σ Q r) cb E1 (fun _ h => h) (fun h => h) (fun _ _ _ g u => g.up u) h1 fun dy y F2 H2 e2 u2 E2 hy h2 => ?_
    obtain ⟨A, hx⟩ := hx
    obtain ⟨B, hy⟩ := hy
    obtain ⟨k, e, q⟩ := h2.okB
    rw [inN_S (fun ⟨ks, ds, z⟩ => hd ⟨ks, ds, by rw [e2, z]⟩)] at e
    refine hf F2 H2 x y dx dy (.bl k) A B _ u2.fh (hx.up u2) hy (by show (if neg = true then _ else _ : Option Bool).map D.bl = _; rw [e]; rfl) fun v F' H' u i => ?_
    simp only [Is] at i
    exact ⟨k, i, q F' H' u⟩
end Ev

set_option maxHeartbeats 4000000
/-! Ev, part H: built-in functions, fields, own defs called. -/
namespace Ev
open PySem PySem.Spec PyProof.Rows L2
variable {X : Cx} {c : Cp} {F G H F' G' H' : Hp} {σ : L2.St} {δ : Env} {a b e : Expr} {es : List Expr} {pos p : Pos} {x : Str} {ta tb tc ty : Ty} {oa ob oc o : OT} {os : List OT} {fa fb fc : Env → Option R} {fs : Env → Option RL}
/-! ### built-in functions -/
def CallS (X : Cx) (c : Cp) (f : Value) (os : List OT) (ty : Ty) (g : List D → Option D) : Prop := ∃ r, CallR X f r ∧
  ∀ (F H : Hp) (vs : List V) (ds : List D) (d : D) (Q : VK), Same F H → ViewL c.K F H os ds vs → g ds = some d → (∀ v F' H', Up F H F' H' → Post c.K H F' H' ty d v → Q v H') → r vs H Q
theorem Gv.okT {Q : VK} {r : Option D} (g : Gv c ty F H σ Q (Ev.okO r)) : ∃ d, r = some d ∧ ∀ v F' H', Up F H F' H' → Post c.K H F' H' ty d v → Q v H' := by
  cases r with
  | none => exact g.elim
  | some d => exact ⟨d, rfl, g⟩
theorem s_callB {id : String} {g : List D → Option D} (h : CallS X c (.builtin id) os ty g) (hg : Gl X x) (hm : X.mg x = none) (hv : bootBuiltins x = some (.builtin id)) (ha : PA X (e :: es) (tL c os fs)) (hn : x ≠ "__name__") (hdb : (x == ("__debug__" : Str)) = false)
    (he : starEach (e :: es) X.env = (false, eval e X.env) :: starEach es X.env) (hpl : (backTo pos (starEach es X.env)).any (·.1) = false) :
    PE X (.Call (.Name x p) (e :: es) [] pos) (tV c ty fun δ => bndL (fs δ) fun ds => okO (g ds)) := by
  obtain ⟨r, hr, hf⟩ := h
  refine PE.imp (pe_callB hr hg hm hv ha hn hdb he hpl) fun σ H Q h => ?_
  obtain ⟨F, δ, E, h⟩ := h
  refine tL.goV E h fun ds vs F1 H1 u1 E1 w h1 => ?_
  obtain ⟨d, e, q⟩ := h1.okT
  exact hf F1 H1 vs ds d Q u1.fh w e q
theorem s_callTy {T : String} {g : List D → Option D} (h : CallS X c (.type T) os ty g) (hg : Gl X x) (hm : X.mg x = none) (hv : bootBuiltins x = some (.type T)) (ha : PA X (e :: es) (tL c os fs)) (hn : x ≠ "__name__") (hdb : (x == ("__debug__" : Str)) = false)
    (he : starEach (e :: es) X.env = (false, eval e X.env) :: starEach es X.env) (hpl : (backTo pos (starEach es X.env)).any (·.1) = false) :
    PE X (.Call (.Name x p) (e :: es) [] pos) (tV c ty fun δ => bndL (fs δ) fun ds => okO (g ds)) := by
  obtain ⟨r, hr, hf⟩ := h
  refine PE.imp (pe_callTy hr hg hm hv ha hn hdb he hpl) fun σ H Q h => ?_
  obtain ⟨F, δ, E, h⟩ := h
  refine tL.goV E h fun ds vs F1 H1 u1 E1 w h1 => ?_
  obtain ⟨d, e, q⟩ := h1.okT
  exact hf F1 H1 vs ds d Q u1.fh w e q
theorem view1 {K : PySem.W.Frag} {ds : List D} {vs : List V} (h : ViewL K F H [o] ds vs) : ∃ d v A, ds = [d] ∧ vs = [v] ∧ Own K F H o d v A := by
  cases ds with
  | nil => simp [ViewL] at h
  | cons d r =>
    simp only [ViewL] at h
    obtain ⟨v, rv, rfl, ⟨A, h1⟩, h2⟩ := h
    cases r with
    | nil => simp only [ViewL] at h2; subst h2; exact ⟨d, v, A, rfl, rfl, h1⟩
    | cons _ _ => simp [ViewL] at h2
theorem view2 {K : PySem.W.Frag} {ds : List D} {vs : List V} (h : ViewL K F H [oa, ob] ds vs) : ∃ d d' v v' A B, ds = [d, d'] ∧ vs = [v, v'] ∧ Own K F H oa d v A ∧ Own K F H ob d' v' B := by
  cases ds with
  | nil => simp [ViewL] at h
  | cons d r =>
    simp only [ViewL] at h
    obtain ⟨v, rv, rfl, ⟨A, h1⟩, h2⟩ := h
    obtain ⟨d', v', B, rfl, rfl, h3⟩ := view1 h2
    exact ⟨d, d', v, v', A, B, rfl, rfl, h1, h3⟩
def lenD : List D → Option D
  | [.lst ds] => some (.int ds.length)
  | [.tup ds] => some (.int ds.length)
  | [.dic ks ds] => some (.int ks.length)
  | [.lck ns] => some (.int ns.length)
  | [.str z] => if z.length ≤ sizeLine then some (.int z.length) else none
  | _ => none
theorem b_len (hK : X.K = c.K) : CallS X c (.builtin "len") [.bw] (.vw .fz) lenD := by
  refine ⟨_, call_len.or call_lenD, fun F H vs ds d Q s w e q => ?_⟩
  obtain ⟨d0, v, A, rfl, rfl, hx⟩ := view1 w
  have fin : ∀ n : Nat, d = .int n → Q (.int n) H := fun n z => by
    subst z; exact q _ F H (Up.refl s) ⟨[], Own.of_is (by simp only [Is])⟩
  cases d0 with
  | lst ds =>
    cases e
    obtain ⟨p, vs, rfl, hp, hi⟩ := hx.lstF rfl s
    exact .inl ⟨_, ds.length, rfl, .inl ⟨vs, SqL.of hp, hi.length.symm⟩, fin _ rfl⟩
  | tup ds =>
    cases e
    obtain ⟨p, vs, rfl, hp, hi, _⟩ := hx.tup s
    exact .inl ⟨_, ds.length, rfl, .inr ⟨vs, SqT.of hp, hi.length.symm⟩, fin _ rfl⟩
  | dic ks ds =>
    cases e
    obtain ⟨p, kvs, rfl, hp, rfl, _, _⟩ := hx.dict s
    exact .inr ⟨p, kvs, rfl, hp, fin _ (by simp)⟩
  | lck ns =>
    cases e
    have q1 := hx.scal rfl
    simp only [Is] at q1
    obtain ⟨p, rfl, hp⟩ := q1
    exact .inl ⟨_, ns.length, rfl, .inl ⟨_, hK ▸ s.seq hp, by simp⟩, fin _ rfl⟩
  | str z =>
    simp only [lenD] at e
    by_cases g : z.length ≤ sizeLine
    · rw [if_pos g] at e; cases e
      exact .inl ⟨_, z.length, rfl, by rw [hx.strV.1]; exact ⟨g, rfl⟩, fin _ rfl⟩
    · rw [if_neg g] at e; cases e
  | _ => simp [lenD] at e
/-- tuple(x), list(x) -/
def tupD : List D → Option D
  | [.lst ds] => some (.tup ds)
  | [.tup ds] => some (.tup ds)
  | _ => none
theorem b_tuple : CallS X c (.type "tuple") [.bw] (.vw .fz) tupD := by
  refine ⟨_, call_tuple_of, fun F H vs ds d Q s w e q => ?_⟩
  obtain ⟨d0, v, A, rfl, rfl, hx⟩ := view1 w
  cases d0 with
  | lst ds =>
    cases e
    obtain ⟨p, vs, rfl, hp, hi⟩ := hx.lstF rfl s
    refine ⟨p, vs, rfl, .inl ⟨SqL.of hp, fun l hl => q _ _ _ (Up.newF s hl) ⟨[], Own.of_is ?_⟩⟩⟩
    simp only [Is]
    exact ⟨l, _, rfl, upd_same, hi.mono (Up.newF (o := .tup vs) s hl).ff⟩
  | tup ds =>
    cases e
    obtain ⟨p, vs, rfl, hp, hi, _⟩ := hx.tup s
    exact ⟨p, vs, rfl, .inr ⟨SqT.of hp, q _ F H (Up.refl s) ⟨[], Own.of_is hx.tupIs⟩⟩⟩
  | _ => simp [tupD] at e
def lstD : List D → Option D
  | [.lst ds] => some (.lst ds)
  | [.tup ds] => some (.lst ds)
  | _ => none
theorem fresh_lst {l : Addr} {vs : List V} {ds : List D} (s : Same F H) (hl : H l = none) (hi : IsL c.K F ds vs) : Post c.K H F (upd H l (.lst vs)) (.fr (.lst .fz)) (.lst ds) (.ref l) := by
  refine ⟨[l], ?_, by simp, fun a ha => ?_⟩
  · simp only [Own]
    exact ⟨l, vs, [], rfl, upd_same, OwnL.of_fz hi, rfl⟩
  · have e : a = l := by simpa using ha
    subst e
    refine ⟨hl, ?_⟩
    cases q : F a with
    | none => rfl
    | some u => rw [s _ _ q] at hl; cases hl
theorem b_list : CallS X c (.type "list") [.bw] (.fr (.lst .fz)) lstD := by
  refine ⟨_, call_list_of, fun F H vs ds d Q s w e q => ?_⟩
  obtain ⟨d0, v, A, rfl, rfl, hx⟩ := view1 w
  cases d0 with
  | lst ds =>
    cases e
    obtain ⟨p, vs, rfl, hp, hi⟩ := hx.lstF rfl s
    exact ⟨p, vs, rfl, .inl (SqL.of hp), fun l hl => q _ F _ (Up.new s hl) (fresh_lst s hl hi)⟩
  | tup ds =>
    cases e
    obtain ⟨p, vs, rfl, hp, hi, _⟩ := hx.tup s
    exact ⟨p, vs, rfl, .inr (SqT.of hp), fun l hl => q _ F _ (Up.new s hl) (fresh_lst s hl hi)⟩
  | _ => simp [lstD] at e
def intD : List D → Option D
  | [.int i] => some (.int i)
  | [.bl b] => some (.int (if b then 1 else 0))
  | _ => none
theorem b_int : CallS X c (.type "int") [.bw] (.vw .fz) intD := by
  refine ⟨_, call_int1, fun F H vs ds d Q s w e q => ?_⟩
  obtain ⟨d0, v, A, rfl, rfl, hx⟩ := view1 w
  cases d0 with
  | int i =>
    cases e
    exact .inl ⟨i, by rw [hx.int], q _ F H (Up.refl s) ⟨[], Own.of_is (by simp only [Is])⟩⟩
  | bl b =>
    cases e
    have q1 := hx.scal rfl
    simp only [Is] at q1
    exact .inr ⟨b, by rw [q1], q _ F H (Up.refl s) ⟨[], Own.of_is (by simp only [Is])⟩⟩
  | _ => simp [intD] at e
def absD : List D → Option D
  | [.int i] => some (.int (if i < 0 then -i else i))
  | _ => none
theorem b_abs : CallS X c (.builtin "abs") [.bw] (.vw .fz) absD := by
  refine ⟨_, call_abs, fun F H vs ds d Q s w e q => ?_⟩
  obtain ⟨d0, v, A, rfl, rfl, hx⟩ := view1 w
  cases d0 with
  | int i =>
    cases e
    exact ⟨i, by rw [hx.int], q _ F H (Up.refl s) ⟨[], Own.of_is (by simp only [Is])⟩⟩
  | _ => simp [absD] at e
/-- isinstance(x, T), T a built-in class -/
inductive Tn where
  | tuple | list | bool | int | str
def Tn.nm : Tn → String
  | .tuple => "tuple" | .list => "list" | .bool => "bool" | .int => "int" | .str => "str"
def Tn.has : Tn → D → Option Bool
  | .tuple, .tup _ => some true
  | .list, .lst _ => some true
  | .bool, .bl _ => some true
  | .int, .int _ => some true
  | .int, .bl _ => some true
  | .str, .str _ => some true
  | _, .ins _ _ => none
  | _, .lck _ => none
  | _, _ => some false
def tyNm : D → String
  | .non => "NoneType" | .bl _ => "bool" | .int _ => "int" | .str _ => "str" | .tup _ => "tuple" | .lst _ => "list" | .dic _ _ => "dict" | .ins _ _ => "?" | .lck _ => "list"
theorem tyx_of {K : PySem.W.Frag} {d : D} {v : V} {A : List Addr} {k : Bool} {t : Tn} (s : Same F H) (h : Own K F H .bw d v A) (ht : t.has d = some k) : TyX K H v (.type (tyNm d)) := by
  cases d with
  | non => have q := h.scal rfl; simp only [Is] at q; subst q; exact .base .non
  | bl b => have q := h.scal rfl; simp only [Is] at q; subst q; exact .base (.bl b)
  | int i => rw [h.int]; exact .base (.int i)
  | str x => rw [h.strV.1]; exact .base (.str x)
  | tup ds => obtain ⟨p, vs, rfl, hp, _, _⟩ := h.tup s; exact .base (.tup hp)
  | lst ds => obtain ⟨p, vs, rfl, hp, _⟩ := h.lstF rfl s; exact .base (.lst hp)
  | dic ks ds => obtain ⟨p, vs, rfl, hp, _⟩ := h.dict s; exact .base (.dK hp)
  | ins c ds => cases t <;> simp [Tn.has] at ht
  | lck ns => cases t <;> simp [Tn.has] at ht
theorem kit_has {K : PySem.W.Frag} {d : D} {k : Bool} {t : Tn} (ht : t.has d = some k) : PySem.W.kitOne K (.type (tyNm d)) (.type t.nm) = some k := by
  cases t <;> cases d <;> simp [Tn.has] at ht <;> subst ht <;> exact kit_ty (by simp only [tyNm, Tn.nm]; decide +kernel)
theorem s_isi {t : Tn} {xi xt : Str} {pi pt : Pos} (hK : X.K = c.K) (ha : PE X a (tV c ta fa)) (ca : coe ta .bw = true) (hg : Gl X xi) (hm : X.mg xi = none) (hv : bootBuiltins xi = some (.builtin "isinstance"))
    (hgt : Gl X xt) (hmt : X.mg xt = none) (hvt : bootBuiltins xt = some (.type t.nm)) (hn : xi ≠ "__name__") (hdb : (xi == ("__debug__" : Str)) = false) (hn2 : xt ≠ "__name__") (hdb2 : (xt == ("__debug__" : Str)) = false)
    (hs : starEach [a, .Name xt pt] X.env = (false, eval a X.env) :: starEach [.Name xt pt] X.env) :
    PE X (.Call (.Name xi pi) [a, .Name xt pt] [] pos) (tV c (.vw .fz) fun δ => bnd (fa δ) fun d => okB (t.has d)) := by
  refine PE.imp (pe_callB call_isi hg hm hv (pa_cons ha (pa_cons (pe_bltn hgt hmt hvt (v := .ty t.nm) rfl hn2 hdb2) pa_nil) hs) hn hdb hs (by rfl)) fun σ H Q h => ?_
  obtain ⟨F, δ, E, h⟩ := h
  refine tV.goV ca E h fun d v F1 H1 u1 E1 hx h1 => ?_
  obtain ⟨A, hx⟩ := hx
  obtain ⟨k, e, q⟩ := h1.okB
  exact ⟨v, .ty t.nm, .type (tyNm d), .type t.nm, k, rfl, .ty _, hK ▸ tyx_of u1.fh hx e, kit_has e, q F1 H1 (Up.refl u1.fh)⟩
/-! ### fields of instances that are only read -/
def fldIx (f : Str) : List Str → Option Nat
  | [] => none
  | g :: r => if g = f then some 0 else (fldIx f r).map (· + 1)
def fldD (f : Str) : D → Option D
  | .ins c ds => (fldIx f (clsT c).fields).bind fun i => ds[i]?
  | _ => none
/-- what is known of a class whose fields are read -/
def ClsOk (K : PySem.W.Frag) (i : Nat) : Prop := Cls K (clsA K i) ∧ ∀ f ∈ (clsT i).fields, NoAttr K (clsA K i) f
theorem fldIx_zip {f : Str} : ∀ {fs : List Str} {vs : List V} {i : Nat} {v : V}, fldIx f fs = some i → vs[i]? = some v → (fs.zip vs).lookup f = some v ∧ f ∈ fs
  | [], _, _, _, h, _ => by simp [fldIx] at h
  | g :: r, [], _, _, h, e => by simp at e
  | g :: r, w :: vs, i, v, h, e => by
    unfold fldIx at h
    by_cases hg : g = f
    · rw [if_pos hg] at h
      cases h
      simp at e
      subst e
      subst hg
      exact ⟨by simp [List.lookup_cons], by simp⟩
    · rw [if_neg hg] at h
      cases q : fldIx f r with
      | none => rw [q] at h; cases h
      | some j =>
        rw [q] at h
        cases h
        obtain ⟨h1, h2⟩ := fldIx_zip (vs := vs) q (by simpa using e)
        refine ⟨?_, by simp [h2]⟩
        rw [List.zip_cons_cons, List.lookup_cons]
        have : (f == g) = false := by
          rw [beq_eq_false_iff_ne]
          exact fun z => hg z.symm
        rw [this]
        exact h1
theorem s_fld {f : Str} (hK : X.K = c.K) (hc : ∀ i, f ∈ (clsT i).fields → ClsOk c.K i) (ha : PE X a (tV c ta fa)) (ca : coe ta .fz = true) (hb : attributeBase a f X.env (eval a X.env) = eval a X.env) :
    PE X (.Attribute a f pos) (tV c (.vw .fz) fun δ => bnd (fa δ) fun d => okO (fldD f d)) := by
  refine PE.imp (pe_fld ha hb) fun σ H Q h => ?_
  obtain ⟨F, δ, E, h⟩ := h
  refine tV.goV ca E h fun d v F1 H1 u1 E1 hx h1 => ?_
  obtain ⟨A, hx⟩ := hx
  obtain ⟨r, e, q⟩ := h1.okO
  cases d with
  | ins i ds =>
    simp only [fldD] at e
    cases e1 : fldIx f (clsT i).fields with
    | none => rw [e1] at e; cases e
    | some j =>
      rw [e1] at e
      have hi := hx.is
      simp only [Is] at hi
      obtain ⟨p, dx, vs, rfl, hp, hl, hd⟩ := hi
      obtain ⟨w, hw, hiw⟩ := hd.get (show ds[j]? = some r from e)
      obtain ⟨h2, h3⟩ := fldIx_zip e1 hw
      obtain ⟨k1, k2⟩ := hc i h3
      exact ⟨p, clsA c.K i, dx, _, w, rfl, u1.fh _ _ hp, hK ▸ k1, hK ▸ k2 f h3, h2, q w F1 H1 (Up.refl u1.fh) hiw⟩
  | _ => simp [fldD] at e
/-! ### own defs, called -/
structure Sig where
  args : List OT
  ret : Ty
abbrev Fn := List D → Option R
def GF (K : PySem.W.Frag) (F H : Hp) (ty : Ty) (Q : VK) (E : XK) : Option R → Prop
  | some (.ok d) => ∀ v F' H', Up F H F' H' → Post K H F' H' ty d v → Q v H'
  | some (.ex x) => ∀ cls u dx F' H', RelV cls u → Up F H F' H' → XRep K F' H' x cls dx → E u dx H'
  | none => False
/-- the promise of a def that changes nothing: worth φ of its arguments -/
def spE (K : PySem.W.Frag) (sg : Sig) (φ : Fn) : Sp := fun vs H Q E => ∃ F ds, Same F H ∧ ViewL K F H sg.args ds vs ∧ GF K F H sg.ret Q E (φ ds)
theorem ViewL.len {K : PySem.W.Frag} : ∀ {os : List OT} {ds : List D} {vs : List V}, ViewL K F H os ds vs → vs.length = os.length
  | [], [], _, h => by simp only [ViewL] at h; rw [h]; rfl
  | o :: os, d :: ds, _, h => by
    simp only [ViewL] at h
    obtain ⟨v, r, rfl, _, h2⟩ := h
    rw [List.length_cons, List.length_cons, ViewL.len h2]
  | [], _ :: _, _, h => by simp [ViewL] at h
  | _ :: _, [], _, h => by simp [ViewL] at h
/-- a def that may be called by its name -/
structure Callee (X : Cx) (x : Str) (k : Nat) (sg : Sig) (φ : Fn) : Prop where
  ex : ∃ (f : Addr) (fd : FuncData) (ps : List Str), FnOk X.prog X.w X.K X.mg X.base (L2.CX X.prog X.w) k f fd ps (spE X.K sg φ) ∧ X.mg x = some (.ref f) ∧ PySem.W.keepIn X.K (.ref f) = true ∧ Binds X.K fd ps []
theorem s_call {k : Nat} {sg : Sig} {φ : Fn} (C : Callee X x k sg φ) (hK : X.K = c.K) (hr : Room k X.A) (hg : Gl X x) (tk : Takes X c.W) (ha : PA X (e :: es) (tL c sg.args fs)) (hdb : (x == ("__debug__" : Str)) = false)
    (he : starEach (e :: es) X.env = (false, eval e X.env) :: starEach es X.env) (hpl : (backTo pos (starEach es X.env)).any (·.1) = false) :
    PE X (.Call (.Name x p) (e :: es) [] pos) (tV c sg.ret fun δ => bndL (fs δ) φ) := by
  obtain ⟨f, fd, ps, F, hm, hk, hb⟩ := C.ex
  refine PE.imp (pe_callS F hr hg hm hk hb (fun σ => passAt tk σ) ha hdb he hpl) fun σ H Q h => ?_
  obtain ⟨F, δ, E, h⟩ := h
  refine tL.goV E h fun ds vs F1 H1 u1 E1 w h1 => ?_
  refine ⟨F1, ds, u1.fh, hK ▸ w, ?_⟩
  cases r : φ ds with
  | none => rw [r] at h1; exact h1
  | some r' =>
    rw [r] at h1
    cases r' with
    | ok d => exact hK ▸ h1
    | ex x => exact fun cls u dx F' H' rv up xr => h1 cls u dx F' H' rv up (hK ▸ xr)
end Ev

set_option maxHeartbeats 4000000
/-! Ev, part I: what is walked, targets, comprehensions. -/
namespace Ev
open PySem PySem.Spec PyProof.Rows L2
variable {X : Cx} {c : Cp} {F G H F' G' H' : Hp} {σ : L2.St} {δ : Env} {a b e tg : Expr} {es : List Expr} {pos p : Pos} {x : Str} {ta tb tc ty : Ty} {oa ob oc o : OT} {os : List OT} {fa fb fc : Env → Option R} {fs : Env → Option RL}
/-! ### items -/
/-- J yields the items ds, wherever F1 and G1 still stand -/
def WalkOk (K : PySem.W.Frag) (J : It) (F1 G1 : Hp) (ds : List D) : Prop := ∀ F H, Same F1 F → Same F H → Same G1 H → ∀ i : Nat,
  (∀ d, ds[i]? = some d → J.go i H ∧ ∀ x H', J.yld i H x H' → ∃ F', Up F H F' H' ∧ Is K F' d x) ∧ (ds.length ≤ i → J.stop i H)
/-- what keeps the walked thing: it is frozen; it stood at the entry; it stands now -/
inductive Gm where
  | fz | en | nw
def Gm.hp (c : Cp) (H : Hp) : Gm → Hp
  | .fz => fun _ => none
  | .en => c.G
  | .nw => H
def GI (c : Cp) (gm : Gm) (F H : Hp) (σ : L2.St) (R : It → Hp → Prop) : Option RL → Prop
  | some (.ok ds) => ∀ J F' H', Up F H F' H' → WalkOk c.K J F' (gm.hp c H') ds → R J H'
  | some (.ex x) => Bad c F H σ x
  | none => False
def tI (c : Cp) (gm : Gm) (f : Env → Option RL) : TI := fun σ H R => ∃ F δ, c.E F H σ δ ∧ GI c gm F H σ R (f δ)
theorem PI.imp {iter : Expr} {t t' : TI} (h : PI X tg iter t) (i : ∀ σ H Q, t' σ H Q → t σ H Q) : PI X tg iter t' := ⟨fun pins s σ H Q I q => h.run pins s σ H Q I (i σ H Q q)⟩
theorem PI.or {iter : Expr} {t t' : TI} (h : PI X tg iter t) (h' : PI X tg iter t') : PI X tg iter (fun σ H Q => t σ H Q ∨ t' σ H Q) := ⟨fun pins s σ H Q I q => by
  rcases q with q | q
  · exact h.run pins s σ H Q I q
  · exact h'.run pins s σ H Q I q⟩
def itemsD : D → Option (List D)
  | .lst ds => some ds
  | .tup ds => some ds
  | .str z => some (z.cps.toList.map fun q => .str ⟨#[q]⟩)
  | .lck ns => some (ns.map D.int)
  | _ => none
def bndI (r : Option R) (k : D → Option RL) : Option RL := match r with
  | some (.ok d) => k d
  | some (.ex x) => some (.ex x)
  | none => none
def okL : Option (List D) → Option RL
  | some ds => some (.ok ds)
  | none => none
theorem walk_list {K : PySem.W.Frag} {p : Addr} {vs : List V} {ds : List D} {F1 G1 : Hp} (hp : ∀ F H, Same F1 F → Same F H → Same G1 H → SqL K H p vs) (hi : IsL K F1 ds vs) : WalkOk K (Itl K p) F1 G1 ds := fun F H s1 s2 s3 i => by
  refine ⟨fun d hd => ?_, fun hl => ⟨vs, hp F H s1 s2 s3, by rw [hi.length]; exact hl⟩⟩
  obtain ⟨v, hv, hiv⟩ := hi.get hd
  refine ⟨⟨vs, v, hp F H s1 s2 s3, hv⟩, fun x H' y => ?_⟩
  obtain ⟨rfl, y⟩ := y
  have := y vs (hp F _ s1 s2 s3)
  rw [hv] at this
  cases this
  exact ⟨F, Up.refl s2, hiv.mono s1⟩
theorem walk_tup {K : PySem.W.Frag} {p : Addr} {vs : List V} {ds : List D} {F1 G1 : Hp} (hp : ∀ F H, Same F1 F → Same F H → Same G1 H → SqT K H p vs) (hi : IsL K F1 ds vs) : WalkOk K (Itt K p) F1 G1 ds := fun F H s1 s2 s3 i => by
  refine ⟨fun d hd => ?_, fun hl => ⟨vs, hp F H s1 s2 s3, by rw [hi.length]; exact hl⟩⟩
  obtain ⟨v, hv, hiv⟩ := hi.get hd
  refine ⟨⟨vs, v, hp F H s1 s2 s3, hv⟩, fun x H' y => ?_⟩
  obtain ⟨rfl, y⟩ := y
  have := y vs (hp F _ s1 s2 s3)
  rw [hv] at this
  cases this
  exact ⟨F, Up.refl s2, hiv.mono s1⟩
theorem walk_str {K : PySem.W.Frag} {z : Str} {F1 G1 : Hp} (ok : PyData.strOk z = true) : WalkOk K (Its z) F1 G1 (z.cps.toList.map fun q => .str ⟨#[q]⟩) := fun F H s1 s2 s3 i => by
  refine ⟨fun d hd => ?_, fun hl => ?_⟩
  · rw [List.getElem?_map] at hd
    cases e : z.cps.toList[i]? with
    | none => rw [e] at hd; cases hd
    | some q =>
      rw [e] at hd
      cases hd
      have hi : i < z.cps.size := by
        have := (List.getElem?_eq_some_iff.mp e).1
        simpa using this
      refine ⟨hi, fun x H' y => ?_⟩
      obtain ⟨rfl, r, hr, rfl⟩ := y
      have e2 : r = q := by
        rw [Array.getElem?_toList] at e
        rw [e] at hr
        exact (Option.some.inj hr).symm
      subst e2
      refine ⟨F, Up.refl s2, Is.str ?_⟩
      rw [strOk_iff] at ok ⊢
      intro t ht
      have : t = r := by simpa using ht
      subst this
      exact ok _ (List.mem_of_getElem? e)
  · show z.cps.size ≤ i
    simpa using hl
theorem isL_ints {K : PySem.W.Frag} : ∀ ns : List Int, IsL K F (ns.map D.int) (ns.map V.int)
  | [] => by simp [IsL]
  | n :: ns => ⟨.int n, ns.map V.int, rfl, by simp only [Is], isL_ints ns⟩
/-- a list, a tuple, a text walked; the type says what keeps it -/
def gmOf : Ty → Gm
  | .vw .fz => .fz
  | .fr _ => .fz
  | _ => .nw
theorem i_val (hK : X.K = c.K) (ha : PE X e (tV c (.vw o) fa)) (ho : elO o = true) : PI X tg e (tI c (gmOf (.vw o)) fun δ => bndI (fa δ) fun d => okL (itemsD d)) := by
  refine PI.imp (PI.or (pi_list ha) (PI.or (pi_tup ha) (pi_str ha))) fun σ H R h => ?_
  obtain ⟨F, δ, E, h⟩ := h
  change GI c (gmOf (.vw o)) F H σ R (bndI (fa δ) _) at h
  cases e1 : fa δ with
  | none => rw [e1] at h; exact h.elim
  | some r =>
    cases r with
    | ex x => rw [e1] at h; exact .inl ⟨F, δ, E, by rw [e1]; exact h⟩
    | ok d =>
      rw [e1] at h
      have start : ∀ {Q1 : VK}, (∀ v F1 H1, Up F H F1 H1 → (∃ A, Own c.K F1 H1 o d v A) → Q1 v H1) → tV c (.vw o) fa σ H Q1 := fun k => ⟨F, δ, E, by rw [e1]; exact fun v F1 H1 u p => k v F1 H1 u p⟩
      cases d with
      | lst ds =>
        refine .inl (start fun v F1 H1 u ⟨A, hx⟩ => ?_)
        obtain ⟨p, vs, rfl, hp, hi⟩ := hx.lstF ho u.fh
        refine ⟨p, rfl, ⟨vs, SqL.of hp⟩, h _ F1 H1 u ?_⟩
        rw [← hK]
        refine walk_list (fun F2 H2 s1 s2 s3 => ?_) (by rw [hK]; exact hi)
        cases o with
        | fz =>
          have q := hx.is
          simp only [Is] at q
          obtain ⟨p', vs', e2, hp', _⟩ := q
          cases e2
          have e3 := u.fh _ _ hp'
          rw [hp] at e3; cases e3
          exact SqL.of (s2 _ _ (s1 _ _ hp'))
        | bw => exact SqL.of (s3 _ _ hp)
        | lst o' => exact SqL.of (s3 _ _ hp)
        | dic => simp [Own] at hx
        | ins os => cases ho
      | tup ds =>
        refine .inr (.inl (start fun v F1 H1 u ⟨A, hx⟩ => ?_))
        have q : Is c.K F1 (.tup ds) v := hx.scal rfl
        simp only [Is] at q
        obtain ⟨p, vs, rfl, hp, hi⟩ := q
        refine ⟨p, rfl, ⟨vs, SqT.of (u.fh _ _ hp)⟩, h _ F1 H1 u ?_⟩
        rw [← hK]
        exact walk_tup (fun F2 H2 s1 s2 s3 => SqT.of (s2 _ _ (s1 _ _ hp))) (by rw [hK]; exact hi)
      | str z =>
        refine .inr (.inr (start fun v F1 H1 u ⟨A, hx⟩ => ?_))
        have q := hx.scal rfl
        simp only [Is] at q
        exact ⟨z, q.1, h _ F1 H1 u (walk_str q.2)⟩
      | lck ns =>
        refine .inl (start fun v F1 H1 u ⟨A, hx⟩ => ?_)
        have q := hx.scal rfl
        simp only [Is] at q
        obtain ⟨p, rfl, hp⟩ := q
        refine ⟨p, rfl, ⟨_, hK ▸ u.fh.seq hp⟩, h _ F1 H1 u ?_⟩
        rw [← hK]
        exact walk_list (vs := ns.map V.int) (fun F2 H2 s1 s2 s3 => s2.seq (s1.seq (hK ▸ hp))) (isL_ints ns)
      | _ => exact h.elim
/-- range(a), range(a, b) -/
def rngD (lo hi : Int) : List D := (List.range (hi - lo).toNat).map fun i : Nat => D.int (lo + i)
theorem walk_rng {K : PySem.W.Frag} {lo hi : Int} {F1 G1 : Hp} : WalkOk K (Itr lo (hi - lo).toNat) F1 G1 (rngD lo hi) := fun F H s1 s2 s3 i => by
  refine ⟨fun d hd => ?_, fun hl => ?_⟩
  · unfold rngD at hd
    rw [List.getElem?_map] at hd
    cases e : (List.range (hi - lo).toNat)[i]? with
    | none => rw [e] at hd; cases hd
    | some q =>
      rw [e] at hd
      cases hd
      obtain ⟨h1, h2⟩ := List.getElem?_eq_some_iff.mp e
      rw [List.getElem_range] at h2
      subst h2
      refine ⟨(by rw [List.length_range] at h1; exact h1 : i < (hi - lo).toNat), fun x H' y => ?_⟩
      obtain ⟨rfl, rfl⟩ := y
      exact ⟨F, Up.refl s2, by simp only [Is]⟩
  · show (hi - lo).toNat ≤ i
    unfold rngD at hl
    simpa using hl
def rngOk (lo hi : Int) : Option (List D) := if decide (-1000000 ≤ lo) && decide (lo ≤ 1000000) && decide (-1000000 ≤ hi) && decide (hi ≤ 1000000) then some (rngD lo hi) else none
theorem rngOk_some {lo hi : Int} {ds : List D} (h : rngOk lo hi = some ds) : ds = rngD lo hi ∧ -1000000 ≤ lo ∧ lo ≤ 1000000 ∧ -1000000 ≤ hi ∧ hi ≤ 1000000 := by
  unfold rngOk at h
  by_cases g : (decide (-1000000 ≤ lo) && decide (lo ≤ 1000000) && decide (-1000000 ≤ hi) && decide (hi ≤ 1000000)) = true
  · rw [if_pos g] at h
    cases h
    simp only [Bool.and_eq_true, decide_eq_true_eq] at g
    exact ⟨rfl, g.1.1.1, g.1.1.2, g.1.2, g.2⟩
  · rw [if_neg g] at h; cases h
def rngF1 (d : D) : Option (List D) := match d with
  | .int j => rngOk 0 j
  | _ => none
theorem tV.goI {ta : Ty} {oa : OT} {fa : Env → Option R} {Q1 : VK} {gm : Gm} {Rr : It → Hp → Prop} {k : D → Option RL} (co : coe ta oa = true) (E : c.E F H σ δ) (h : GI c gm F H σ Rr (bndI (fa δ) k))
    (hk : ∀ d v F1 H1, Up F H F1 H1 → c.E F1 H1 σ δ → (∃ A, Own c.K F1 H1 oa d v A) → GI c gm F1 H1 σ Rr (k d) → Q1 v H1) : tV c ta fa σ H Q1 := by
  refine ⟨F, δ, E, ?_⟩
  cases e : fa δ with
  | none => rw [e] at h; exact h
  | some r =>
    rw [e] at h
    cases r with
    | ex x => exact h
    | ok d =>
      intro v F1 H1 u p
      obtain ⟨F2, u2, s2, A, o⟩ := p.coe u co
      refine hk d v F2 H1 u2 (E.up u2) ⟨A, o⟩ ?_
      change GI c gm F H σ Rr (k d) at h
      cases e2 : k d with
      | none => rw [e2] at h; exact h
      | some r =>
        rw [e2] at h
        cases r with
        | ex x => exact Bad.up h u2
        | ok ds => exact fun J F' H' u3 w => h J F' H' (u2.trans u3) w
theorem i_rng1 {pr : Pos} (ha : PE X a (tV c ta fa)) (ca : coe ta .bw = true) (hg : Gl X "range") (hm : X.mg "range" = none) (hs : starEach [a] X.env = [(false, eval a X.env)]) :
    PI X tg (.Call (.Name "range" pr) [a] [] pos) (tI c .fz fun δ => bndI (fa δ) fun d => okL (rngF1 d)) := by
  refine PI.imp (pi_range1 hg hm (pa_cons ha pa_nil hs) hs) fun σ H R h => ?_
  obtain ⟨F, δ, E, h⟩ := h
  refine tV.goI ca E h fun d v F1 H1 u1 E1 hx h1 => ?_
  obtain ⟨A, hx⟩ := hx
  cases d with
  | int j =>
    cases e : rngOk 0 j with
    | none => simp only [rngF1, e] at h1; exact h1.elim
    | some ds =>
      simp only [rngF1, e] at h1
      obtain ⟨rfl, a1, a2, a3, a4⟩ := rngOk_some e
      refine ⟨j, by rw [hx.int], by omega, by omega, ?_⟩
      have w := h1 (Itr 0 (j - 0).toNat) F1 H1 (Up.refl u1.fh) walk_rng
      rw [show (j - 0).toNat = j.toNat by rw [Int.sub_zero]] at w
      exact w
  | _ => exact h1.elim
def rngF2 (d d' : D) : Option (List D) := match d, d' with
  | .int i, .int j => rngOk i j
  | _, _ => none
theorem i_rng2 {pr : Pos} (ha : PE X a (tV c ta fa)) (hb : PE X b (tV c tb fb)) (ca : coe ta .bw = true) (cb : coe tb .bw = true) (hg : Gl X "range") (hm : X.mg "range" = none)
    (hs : starEach [a, b] X.env = [(false, eval a X.env), (false, eval b X.env)]) (hs2 : starEach [b] X.env = [(false, eval b X.env)]) :
    PI X tg (.Call (.Name "range" pr) [a, b] [] pos) (tI c .fz fun δ => bndI (fa δ) fun d => bndI (fb δ) fun d' => okL (rngF2 d d')) := by
  refine PI.imp (pi_range2 hg hm (pa_cons ha (pa_cons hb pa_nil hs2) (by rw [hs, hs2])) hs hs2) fun σ H R h => ?_
  obtain ⟨F, δ, E, h⟩ := h
  refine tV.goI ca E h fun d v F1 H1 u1 E1 hx h1 => ?_
  refine tV.goI cb E1 h1 fun d' v' F2 H2 u2 E2 hy h2 => ?_
  obtain ⟨A, hx⟩ := hx
  obtain ⟨B, hy⟩ := hy
  cases d with
  | int i =>
    cases d' with
    | int j =>
      cases e : rngOk i j with
      | none => simp only [rngF2, e] at h2; exact h2.elim
      | some ds =>
        simp only [rngF2, e] at h2
        obtain ⟨rfl, a1, a2, a3, a4⟩ := rngOk_some e
        exact ⟨i, j, by rw [hx.int, hy.int], ⟨by omega, by omega, by omega, by omega⟩, h2 _ F2 H2 (Up.refl u2.fh) walk_rng⟩
    | _ => exact h2.elim
  | _ => exact h2.elim
/-! ### targets -/
inductive Tg where
  | nm (i : Nat) | tp (ts : List Tg)
mutual
def bindT : Tg → D → Env → Option Env
  | .nm i, d, δ => some (δ.set i (some d))
  | .tp ts, .tup ds, δ => bindTs ts ds δ
  | .tp _, _, _ => none
def bindTs : List Tg → List D → Env → Option Env
  | [], [], δ => some δ
  | t :: ts, d :: ds, δ => (bindT t d δ).bind fun δ1 => bindTs ts ds δ1
  | _, _, _ => none
end
mutual
def tgSlots : Tg → List Nat
  | .nm i => [i]
  | .tp ts => tgSlotsL ts
def tgSlotsL : List Tg → List Nat
  | [] => []
  | t :: ts => tgSlots t ++ tgSlotsL ts
end
def Agree (vs : List Nat) (σ σ' : L2.St) : Prop := σ'.length = σ.length ∧ ∀ j, j ∉ vs → σ'[j]? = σ[j]?
theorem wipe_get {σ : L2.St} {j : Nat} : ∀ {vs : List Nat}, (wipe σ vs)[j]? = if j ∈ vs then (if j < σ.length then some none else none) else σ[j]?
  | [] => by simp [wipe]
  | v :: vs => by
    unfold wipe
    rw [List.getElem?_set, wipe_length, wipe_get (vs := vs)]
    by_cases h : v = j
    · subst h
      simp
    · rw [if_neg h]
      have : (j ∈ v :: vs) ↔ j ∈ vs := by
        simp only [List.mem_cons]
        exact ⟨fun z => z.resolve_left (fun e => h e.symm), .inr⟩
      simp only [this]
theorem Agree.wipe {vs ws : List Nat} {σ σ' : L2.St} (a : Agree vs σ σ') (h : ∀ j ∈ vs, j ∈ ws) : wipe σ' ws = wipe σ ws := by
  apply List.ext_getElem?
  intro j
  rw [wipe_get, wipe_get, a.1]
  by_cases hj : j ∈ ws
  · rw [if_pos hj, if_pos hj]
  · rw [if_neg hj, if_neg hj, a.2 j fun z => hj (h j z)]
def tG (c : Cp) (t : Tg) : TG := fun v σ H Q => ∃ F δ d δ', c.E F H σ δ ∧ Is c.K F d v ∧ bindT t d δ = some δ' ∧ ∀ σ', Agree (tgSlots t) σ σ' → c.E F H σ' δ' → Q σ' H
def tGs (c : Cp) (ts : List Tg) : TGs := fun vs σ H Q => ∃ F δ ds δ', c.E F H σ δ ∧ IsL c.K F ds vs ∧ bindTs ts ds δ = some δ' ∧ ∀ σ', Agree (tgSlotsL ts) σ σ' → c.E F H σ' δ' → Q σ' H
theorem PG.imp {t t' : TG} (h : PG X tg t) (i : ∀ v σ H Q, t' v σ H Q → t v σ H Q) : PG X tg t' := ⟨fun pins s σ H v u Q I r q => h.run pins s σ H v u Q I r (i v σ H Q q)⟩
theorem PGs.imp {t t' : TGs} (h : PGs X es t) (i : ∀ v σ H Q, t' v σ H Q → t v σ H Q) : PGs X es t' := ⟨fun pins s σ H v u Q I r q => h.run pins s σ H v u Q I r (i v σ H Q q)⟩
theorem g_nm {i : Nat} (hN : X.N.Nodup) (hi : X.N[i]? = some x) (hx : Loc X.env.scope x) (hf : X.fn x = true ∨ X.env.scope.names.lookup x = some .local) (hk : c.Ks[i]? = some (.ve .fz)) : PG X (.Name x pos) (tG c (.nm i)) := by
  refine PG.imp (pg_name hN hi hx hf) fun v σ H Q h => ?_
  obtain ⟨F, δ, d, δ', E, hd, e, q⟩ := h
  simp only [bindT] at e
  cases e
  refine q _ ⟨by rw [List.length_set], fun j hj => ?_⟩ (EnvOk.setVe E hk hd)
  rw [List.getElem?_set_ne]
  simp only [tgSlots, List.mem_singleton] at hj
  exact fun z => hj z.symm
theorem gs_nil : PGs X [] (tGs c []) := by
  refine PGs.imp pgs_nil fun vs σ H Q h => ?_
  obtain ⟨F, δ, ds, δ', E, hd, e, q⟩ := h
  cases ds with
  | nil =>
    simp only [bindTs] at e
    cases e
    simp only [IsL] at hd
    exact ⟨hd, q _ ⟨rfl, fun _ _ => rfl⟩ E⟩
  | cons _ _ => simp [bindTs] at e
theorem gs_cons {t : Tg} {ts : List Tg} (h1 : PG X e (tG c t)) (h2 : PGs X es (tGs c ts)) (hs : (assignEach (e :: es) X.env).map (·.2) = assign e X.env :: (assignEach es X.env).map (·.2)) : PGs X (e :: es) (tGs c (t :: ts)) := by
  refine PGs.imp (pgs_cons h1 h2 hs) fun vs σ H Q h => ?_
  obtain ⟨F, δ, ds, δ', E, hd, e, q⟩ := h
  cases ds with
  | nil => simp [bindTs] at e
  | cons d ds =>
    simp only [bindTs] at e
    cases e1 : bindT t d δ with
    | none => rw [e1] at e; cases e
    | some δ1 =>
      rw [e1] at e
      simp only [IsL] at hd
      obtain ⟨v, r, rfl, i1, i2⟩ := hd
      refine ⟨v, r, rfl, F, δ, d, δ1, E, i1, e1, fun σ1 a1 E1 => ⟨F, δ1, ds, δ', E1, i2, e, fun σ2 a2 E2 => q σ2 ⟨a2.1.trans a1.1, fun j hj => ?_⟩ E2⟩⟩
      simp only [tgSlotsL, List.mem_append, not_or] at hj
      rw [a2.2 j hj.2, a1.2 j hj.1]
theorem bindTs_len : ∀ {ts : List Tg} {ds : List D} {δ δ' : Env}, bindTs ts ds δ = some δ' → ds.length = ts.length
  | [], [], _, _, _ => rfl
  | t :: ts, d :: ds, δ, δ', h => by
    simp only [bindTs] at h
    cases e1 : bindT t d δ with
    | none => rw [e1] at h; cases h
    | some δ1 =>
      rw [e1] at h
      rw [List.length_cons, List.length_cons, bindTs_len (show bindTs ts ds δ1 = some δ' from h)]
  | [], _ :: _, _, _, h => by simp [bindTs] at h
  | _ :: _, [], _, _, h => by simp [bindTs] at h
theorem g_tp {k : Nat} {ts : List Tg} (hK : X.K = c.K) (hc : X.calm = true) (h : PGs X es (tGs c ts)) (hn : (assignEach es X.env).length = ts.length) (hst : (assignEach es X.env).findIdx? (·.1) = none) : PG X (.Tuple es k pos) (tG c (.tp ts)) := by
  refine PG.imp (pg_tup hc h hn hst) fun v σ H Q h => ?_
  obtain ⟨F, δ, d, δ', E, hd, e, q⟩ := h
  cases d with
  | tup ds =>
    simp only [bindT] at e
    simp only [Is] at hd
    obtain ⟨p, vs, rfl, hp, hi⟩ := hd
    exact ⟨p, vs, rfl, SqT.of (E.fh _ _ hp), by rw [hi.length, bindTs_len e], F, δ, ds, δ', E, hi, e, q⟩
  | _ => simp [bindT] at e
/-! ### comprehensions -/
def tstD (tst : Option (Env → Option R)) (δ : Env) : Option Bool := match tst with
  | none => some true
  | some f => match f δ with
    | some (.ok (.bl b)) => some b
    | _ => none
def eltD (elt : Env → Option R) (δ : Env) : Option D := match elt δ with
  | some (.ok e) => some e
  | _ => none
def lcGo (t : Tg) (tst : Option (Env → Option R)) (elt : Env → Option R) (δ : Env) : List D → Option (List D)
  | [] => some []
  | d :: ds => (bindT t d δ).bind fun δ1 => (tstD tst δ1).bind fun b =>
    if b then (eltD elt δ1).bind fun e => (lcGo t tst elt δ ds).map (e :: ·) else lcGo t tst elt δ ds
def unsetL (δ : Env) : List Nat → Env
  | [] => δ
  | v :: vs => (unsetL δ vs).set v none
theorem EnvOk.wipe {K : PySem.W.Frag} {Ks : List Kd} {F0 : Hp} (E : EnvOk K Ks F0 G F H σ δ) : ∀ vs : List Nat, EnvOk K Ks F0 G F H (L2.wipe σ vs) (unsetL δ vs)
  | [] => E
  | v :: vs => (EnvOk.wipe E vs).unsetS v none
def Cp.quiet (c : Cp) : Cp := { c with W := fun _ _ _ _ => False }
def tTo (c : Cp) : Option (Env → Option R) → TT
  | none => tYes
  | some f => tT c f
theorem drop_get {α : Type} {l : List α} {i : Nat} {x : α} (h : l[i]? = some x) : l.drop i = x :: l.drop (i + 1) := by
  obtain ⟨h1, h2⟩ := List.getElem?_eq_some_iff.mp h
  rw [List.drop_eq_getElem_cons h1, h2]
theorem bind_some {α β : Type} {r : Option α} {k : α → Option β} {y : β} (h : r.bind k = some y) : ∃ x, r = some x ∧ k x = some y := by
  cases r with
  | none => cases h
  | some x => exact ⟨x, rfl, h⟩
def lcD (t : Tg) (tst : Option (Env → Option R)) (elt : Env → Option R) (δ : Env) (ds : List D) : Option D :=
  if ds.length < sizeLine then (lcGo t tst elt δ ds).map D.lst else none
/-- the turns -/
theorem lc_turns {gm : Gm} {J : It} {ds es : List D} {t : Tg} {tst : Option (Env → Option R)} {elt : Env → Option R} {own : List Nat} {ety : Ty} {F1 H1 : Hp} {D0 : Addr} {Q : Hp → Prop} (E1 : c.E F1 H1 σ δ) (w : WalkOk c.K J F1 (gm.hp c H1) ds)
    (hD : H1 D0 = none) (hz : ds.length < sizeLine) (ce : coe ety .fz = true) (hw : ∀ j ∈ tgSlots t, j ∈ own) (hl : lcGo t tst elt (unsetL δ own) ds = some es)
    (hq : ∀ F H acc, Up F1 H1 F H → F D0 = none → H D0 = some (.lst acc) → IsL c.K F es acc → Q H) :
    ∃ W : Nat → Nat → Hp → Prop, (∃ m, W 0 m (upd H1 D0 (.lst []))) ∧ ∀ i m H, W i m H → (J.stop i H ∧ Q H) ∨ (J.go i H ∧ ∃ Nx : Hp → Prop, (∀ H', Nx H' → ∃ m', m' < m ∧ W (i + 1) m' H') ∧
      ∀ x H', J.yld i H x H' → tG c.quiet t x (L2.wipe σ own) H' fun σ2 H2 => L2.wipe σ2 own = L2.wipe σ own ∧ tTo c.quiet tst σ2 H2 fun b H3 =>
        if b = true then tV c.quiet ety elt σ2 H3 fun y H4 => ∃ acc, H4 D0 = some (.lst acc) ∧ acc.length < sizeLine ∧ Nx (upd H4 D0 (.lst (acc ++ [y]))) else Nx H3) := by
  have fD : F1 D0 = none := by
    cases q : F1 D0 with
    | none => rfl
    | some u => rw [E1.fh _ _ q] at hD; cases hD
  refine ⟨fun i m H => m = ds.length - i ∧ i ≤ ds.length ∧ ∃ F acc accD rest, Up F1 H1 F H ∧ F D0 = none ∧ H D0 = some (.lst acc) ∧ IsL c.K F accD acc ∧ accD.length ≤ i ∧ lcGo t tst elt (unsetL δ own) (ds.drop i) = some rest ∧ accD ++ rest = es,
    ⟨ds.length, by simp, Nat.zero_le _, F1, [], [], es, Up.new E1.fh hD, fD, upd_same, by simp [IsL], by simp, by simpa using hl, rfl⟩, ?_⟩
  rintro i m H ⟨rfl, hi, F, acc, accD, rest, u, f0, hacc, hia, hle, hgo, hes⟩
  have s3 : Same (gm.hp c H1) H := by
    cases gm with
    | fz => exact fun _ _ e => nomatch e
    | en => exact E1.gh.trans u.hh
    | nw => exact u.hh
  obtain ⟨w1, w2⟩ := w F H u.ff u.fh s3 i
  by_cases hlt : i < ds.length
  · have hd : ds[i]? = some ds[i] := List.getElem?_eq_getElem hlt
    obtain ⟨go, y1⟩ := w1 _ hd
    refine .inr ⟨go, fun H' => ((fun i m H => m = ds.length - i ∧ i ≤ ds.length ∧ ∃ F acc accD rest, Up F1 H1 F H ∧ F D0 = none ∧ H D0 = some (.lst acc) ∧ IsL c.K F accD acc ∧ accD.length ≤ i ∧ lcGo t tst elt (unsetL δ own) (ds.drop i) = some rest ∧ accD ++ rest = es) (i + 1) (ds.length - (i + 1)) H' : Prop), fun H' n => ⟨_, by omega, n⟩, fun x H' y => ?_⟩
    obtain ⟨F', u', hx⟩ := y1 x H' y
    rw [drop_get hd] at hgo
    obtain ⟨δ1, e1, hgo⟩ := bind_some hgo
    obtain ⟨b, e2, hgo⟩ := bind_some hgo
    have E0 : c.quiet.E F' H' (L2.wipe σ own) (unsetL δ own) := (EnvOk.wipe E1 own).up (u.trans u')
    have hh0 : H D0 ≠ none := by rw [hacc]; simp
    refine ⟨F', unsetL δ own, ds[i], δ1, E0, hx, e1, fun σ2 a2 E2 => ⟨a2.wipe hw |>.trans (by
      apply List.ext_getElem?
      intro j
      rw [wipe_get, wipe_get, wipe_length]
      by_cases hj : j ∈ own
      · rw [if_pos hj, if_pos hj]
      · rw [if_neg hj, if_neg hj]), ?_⟩⟩
    -- the test
    have goOn : ∀ F3 H3, Up F' H' F3 H3 → (if b = true then tV c.quiet ety elt σ2 H3 fun y H4 => ∃ acc, H4 D0 = some (.lst acc) ∧ acc.length < sizeLine ∧ ((fun i m H => m = ds.length - i ∧ i ≤ ds.length ∧ ∃ F acc accD rest, Up F1 H1 F H ∧ F D0 = none ∧ H D0 = some (.lst acc) ∧ IsL c.K F accD acc ∧ accD.length ≤ i ∧ lcGo t tst elt (unsetL δ own) (ds.drop i) = some rest ∧ accD ++ rest = es) (i + 1) (ds.length - (i + 1)) (upd H4 D0 (.lst (acc ++ [y]))) : Prop)
        else ((fun i m H => m = ds.length - i ∧ i ≤ ds.length ∧ ∃ F acc accD rest, Up F1 H1 F H ∧ F D0 = none ∧ H D0 = some (.lst acc) ∧ IsL c.K F accD acc ∧ accD.length ≤ i ∧ lcGo t tst elt (unsetL δ own) (ds.drop i) = some rest ∧ accD ++ rest = es) (i + 1) (ds.length - (i + 1)) H3 : Prop)) := fun F3 H3 u3 => by
      have u4 := (u.trans u').trans u3
      have f3 : F3 D0 = none := u3.fr _ (u'.fr _ f0 hh0) (Same.some u'.hh hh0)
      have h3 : H3 D0 = some (.lst acc) := u3.hh _ _ (u'.hh _ _ hacc)
      cases b with
      | false =>
        rw [if_neg (by decide)] at hgo
        rw [if_neg (by decide)]
        exact ⟨rfl, hlt, F3, acc, accD, rest, u4, f3, h3, (hia.mono u'.ff).mono u3.ff, by omega, hgo, hes⟩
      | true =>
        rw [if_pos rfl] at hgo
        rw [if_pos rfl]
        obtain ⟨e, e3, hgo⟩ := bind_some hgo
        cases e4 : lcGo t tst elt (unsetL δ own) (ds.drop (i + 1)) with
        | none => rw [e4] at hgo; cases hgo
        | some rest' =>
          rw [e4] at hgo
          cases hgo
          refine ⟨F3, δ1, E2.up u3, ?_⟩
          unfold eltD at e3
          cases e5 : elt δ1 with
          | none => rw [e5] at e3; cases e3
          | some r =>
            rw [e5] at e3
            cases r with
            | ex x => cases e3
            | ok e' =>
              cases e3
              intro y F4 H4 u5 p
              obtain ⟨F5, u6, s5, A, ow⟩ := Post.coe (c := c) p u5 ce
              have f5 : F5 D0 = none := u6.fr _ f3 (by rw [h3]; simp)
              refine ⟨acc, u6.hh _ _ h3, ?_, rfl, hlt, F5, acc ++ [y], accD ++ [e], rest', ?_, f5, upd_same, ?_, ?_, e4, by rw [List.append_assoc]; exact hes⟩
              · rw [hia.length]; omega
              · have u7 := u4.trans u6
                refine ⟨u7.ff, fun a o q => ?_, u7.fr, fun a o q => ?_⟩
                · rw [upd_ne (ne_of_none q hD)]; exact u7.hh a o q
                · rw [upd_ne (ne_of_none q f5)]; exact u7.fh a o q
              · exact (((hia.mono u'.ff).mono u3.ff).mono u6.ff).append ⟨y, [], rfl, ow.is, rfl⟩
              · rw [List.length_append, List.length_singleton]; omega
    cases tst with
    | none =>
      cases e2
      exact goOn F' H' (Up.refl u'.fh)
    | some f =>
      refine ⟨F', δ1, E2, ?_⟩
      simp only [tstD] at e2
      cases e5 : f δ1 with
      | none => rw [e5] at e2; cases e2
      | some r =>
        rw [e5] at e2
        cases r with
        | ex x => cases e2
        | ok d =>
          cases d with
          | bl b' =>
            cases e2
            exact fun F3 H3 u3 => goOn F3 H3 u3
          | _ => cases e2
  · have e : i = ds.length := by omega
    subst e
    rw [List.drop_length] at hgo
    cases hgo
    rw [List.append_nil] at hes
    subst hes
    exact .inl ⟨w2 (Nat.le_refl _), hq F H acc u f0 hacc hia⟩
/-- [elt for t in iter if tst] -/
theorem s_lc {elt tgE iter : Expr} {ifs : List Expr} {scope : Scope} {own : List (Str × Nat)} {gm : Gm} {t : Tg} {tst : Option (Env → Option R)} {fe : Env → Option R} {fi : Env → Option RL} {ety : Ty}
    (hc : X.calm = true) (hN : X.N.Nodup) (hi : PI X tgE iter (tI c gm fi)) (ok : BlkOk X.N X.env.scope scope own)
    (hg : ∀ (s : Shared) (H : Hp) (C : Addr) (cl : List (Str × Addr)) (fp : List Addr), PG (X.blk s H scope (compEnvC scope cl C X.env) fp) tgE (tG c.quiet t))
    (ht : ∀ (s : Shared) (H : Hp) (C : Addr) (cl : List (Str × Addr)) (fp : List Addr), PTs (X.blk s H scope (compEnvC scope cl C X.env) fp) ifs (tTo c.quiet tst))
    (he : ∀ (s : Shared) (H : Hp) (C : Addr) (cl : List (Str × Addr)) (fp : List Addr), PE (X.blk s H scope (compEnvC scope cl C X.env) fp) elt (tV c.quiet ety fe))
    (ce : coe ety .fz = true) (hw : ∀ j ∈ tgSlots t, j ∈ own.map (·.2)) (hs : ∀ x, foldedSetIterable iter X.env x = pure x) :
    PE X (.ListComp elt [⟨tgE, iter, ifs, 0⟩] scope pos) (tV c (.fr (.lst .fz)) fun δ => bndL (fi δ) fun ds => okO (lcD t tst fe (unsetL δ (own.map (·.2))) ds)) := by
  refine PE.imp (pe_lc hc hN hi ok hg ht he hs) fun σ H Q h => ?_
  obtain ⟨F, δ, E, h⟩ := h
  change Gv c _ F H σ Q (bndL (fi δ) _) at h
  refine ⟨F, δ, E, ?_⟩
  cases e : fi δ with
  | none => rw [e] at h; exact h
  | some r =>
    rw [e] at h
    cases r with
    | ex x => exact h
    | ok ds =>
      intro J F1 H1 u w D0 hD
      change Gv c _ F H σ Q (okO (lcD t tst fe (unsetL δ (own.map (·.2))) ds)) at h
      obtain ⟨d, e1, q⟩ := h.okT
      unfold lcD at e1
      by_cases hz : ds.length < sizeLine
      · rw [if_pos hz] at e1
        cases e2 : lcGo t tst fe (unsetL δ (own.map (·.2))) ds with
        | none => rw [e2] at e1; cases e1
        | some es =>
          rw [e2] at e1
          cases e1
          refine lc_turns (E.up u) w hD hz ce hw e2 fun F3 H3 acc u3 f3 h3 i3 => q _ F3 H3 (u.trans u3) ⟨[D0], ?_, by simp, fun a ha => ?_⟩
          · simp only [Own]
            exact ⟨D0, acc, [], rfl, h3, OwnL.of_fz i3, rfl⟩
          · have z : a = D0 := by simpa using ha
            subst z
            exact ⟨u.hh.free hD, f3⟩
      · rw [if_neg hz] at e1; cases e1
end Ev

set_option maxHeartbeats 4000000
/-! Ev, part J: statements. -/
namespace Ev
open PySem PySem.Spec PyProof.Rows L2
variable {X : Cx} {c : Cp} {F G H F' G' H' : Hp} {σ : L2.St} {δ : Env} {a b e tg : Expr} {es : List Expr} {pos p : Pos} {x : Str} {ta tb tc ty rt : Ty} {oa ob oc o : OT} {os : List OT} {fa fb fc : Env → Option R} {fs : Env → Option RL} {st : Stmt} {ss : List Stmt}
inductive Out where
  | nx (δ : Env) | ret (d : D) (δ : Env) | brk (δ : Env) | ct (δ : Env) | ex (x : Xd) (δ : Env)
abbrev So := Env → Option Out
/-- what is wanted of an outcome; F: what was frozen ahead -/
def Gs (c : Cp) (rt : Ty) (F : Hp) (D : Ends) : Option Out → Prop
  | some (.nx δ) => ∀ σ F' H', Same F F' → c.E F' H' σ δ → D.nx σ H'
  | some (.brk δ) => ∀ σ F' H', Same F F' → c.E F' H' σ δ → D.bk σ H'
  | some (.ct δ) => ∀ σ F' H', Same F F' → c.E F' H' σ δ → D.ct σ H'
  | some (.ret d δ) => ∀ v σ F' H', c.E F' H' σ δ → Post c.K c.G F' H' rt d v → D.rt v H'
  | some (.ex x δ) => ∀ cls u dx σ F' H', RelV cls u → Same F F' → c.E F' H' σ δ → XRep c.K F' H' x cls dx → c.W u dx σ H'
  | none => False
def tS (c : Cp) (rt : Ty) (g : So) : TS := fun D σ H => ∃ F δ, c.E F H σ δ ∧ Gs c rt F D (g δ)
theorem Gs.up {D : Ends} {r : Option Out} (g : Gs c rt F D r) (s : Same F F') : Gs c rt F' D r := by
  cases r with
  | none => exact g
  | some r =>
    cases r with
    | nx δ => exact fun σ F2 H2 s2 E => g σ F2 H2 (s.trans s2) E
    | brk δ => exact fun σ F2 H2 s2 E => g σ F2 H2 (s.trans s2) E
    | ct δ => exact fun σ F2 H2 s2 E => g σ F2 H2 (s.trans s2) E
    | ret d δ => exact g
    | ex x δ => exact fun cls u dx σ F2 H2 r s2 E => g cls u dx σ F2 H2 r (s.trans s2) E
theorem PS.imp {t t' : TS} (h : PS X st t) (i : ∀ D σ H, t' D σ H → t D σ H) : PS X st t' := ⟨fun pins s σ H D I q => h.run pins s σ H D I (i D σ H q)⟩
theorem PSs.imp {t t' : TS} (h : PSs X ss t) (i : ∀ D σ H, t' D σ H → t D σ H) : PSs X ss t' := ⟨fun pins s σ H D I q => h.run pins s σ H D I (i D σ H q)⟩
def seqO (r : Option Out) (k : So) : Option Out := match r with
  | some (.nx δ) => k δ
  | r => r
theorem ss_nil : PSs X [] (tS c rt fun δ => some (.nx δ)) := by
  refine PSs.imp pss_nil fun D σ H h => ?_
  obtain ⟨F, δ, E, h⟩ := h
  exact h σ F H (Same.refl _) E
theorem ss_cons {g k : So} (h1 : PS X st (tS c rt g)) (h2 : PSs X ss (tS c rt k)) : PSs X (st :: ss) (tS c rt fun δ => seqO (g δ) k) := by
  refine PSs.imp (pss_cons h1 h2) fun D σ H h => ?_
  obtain ⟨F, δ, E, h⟩ := h
  refine ⟨F, δ, E, ?_⟩
  change Gs c rt F D (seqO (g δ) k) at h
  cases e : g δ with
  | none => rw [e] at h; exact h
  | some r =>
    rw [e] at h
    cases r with
    | nx δ1 => exact fun σ1 F1 H1 s1 E1 => ⟨F1, δ1, E1, Gs.up h s1⟩
    | brk δ => exact h
    | ct δ => exact h
    | ret d δ => exact h
    | ex x δ => exact h
def bndS (r : Option R) (δ : Env) (k : D → Option Out) : Option Out := match r with
  | some (.ok d) => k d
  | some (.ex x) => some (.ex x δ)
  | none => none
theorem Gs.bad {D : Ends} {x : Xd} (g : Gs c rt F D (some (.ex x δ))) (E : c.E F H σ δ) : Bad c F H σ x := fun cls u dx F' H' r up xr => g cls u dx σ F' H' r up.ff (E.up up) xr
theorem tV.goS {D : Ends} {Q1 : VK} {k : Ev.D → Option Out} (co : coe ta oa = true) (E : c.E F H σ δ) (h : Gs c rt F D (bndS (fa δ) δ k))
    (hk : ∀ d v F1 H1, Up F H F1 H1 → c.E F1 H1 σ δ → (∃ A, Own c.K F1 H1 oa d v A) → Gs c rt F1 D (k d) → Q1 v H1) : tV c ta fa σ H Q1 := by
  refine ⟨F, δ, E, ?_⟩
  cases e : fa δ with
  | none => rw [e] at h; exact h.elim
  | some r =>
    rw [e] at h
    cases r with
    | ex x => exact Gs.bad h E
    | ok d =>
      intro v F1 H1 u p
      obtain ⟨F2, u2, s2, A, ow⟩ := p.coe u co
      exact hk d v F2 H1 u2 (E.up u2) ⟨A, ow⟩ (Gs.up h u2.ff)
/-- the value as it comes -/
theorem tV.goP {D : Ends} {Q1 : VK} {k : Ev.D → Option Out} (E : c.E F H σ δ) (h : Gs c rt F D (bndS (fa δ) δ k))
    (hk : ∀ d v F1 H1, Up F H F1 H1 → c.E F1 H1 σ δ → Post c.K H F1 H1 ta d v → Gs c rt F1 D (k d) → Q1 v H1) : tV c ta fa σ H Q1 := by
  refine ⟨F, δ, E, ?_⟩
  cases e : fa δ with
  | none => rw [e] at h; exact h.elim
  | some r =>
    rw [e] at h
    cases r with
    | ex x => exact Gs.bad h E
    | ok d => exact fun v F1 H1 u p => hk d v F1 H1 u (E.up u) p (Gs.up h u.ff)
def bndSB (r : Option R) (δ : Env) (k : Bool → Option Out) : Option Out := match r with
  | some (.ok (.bl b)) => k b
  | some (.ex x) => some (.ex x δ)
  | _ => none
theorem tT.goS {D : Ends} {Q1 : Bool → Hp → Prop} {k : Bool → Option Out} (E : c.E F H σ δ) (h : Gs c rt F D (bndSB (fa δ) δ k))
    (hk : ∀ b F1 H1, Up F H F1 H1 → c.E F1 H1 σ δ → Gs c rt F1 D (k b) → Q1 b H1) : tT c fa σ H Q1 := by
  refine ⟨F, δ, E, ?_⟩
  cases e : fa δ with
  | none => rw [e] at h; exact h.elim
  | some r =>
    rw [e] at h
    cases r with
    | ex x => exact Gs.bad h E
    | ok d =>
      cases d with
      | bl b => exact fun F1 H1 u => hk b F1 H1 u (E.up u) (Gs.up h u.ff)
      | _ => exact h.elim
/-! ### stores of names -/
theorem Gs.nx {D : Ends} (g : Gs c rt F D (some (.nx δ))) {H1 : Hp} (E : c.E F H1 σ δ) : D.nx σ H1 := g σ F H1 (Same.refl _) E
theorem st_set {i : Nat} {p' : Pos} (hN : X.N.Nodup) (hi : X.N[i]? = some x) (hx : Loc X.env.scope x) (hf : X.fn x = true ∨ X.env.scope.names.lookup x = some .local) (hk : c.Ks[i]? = some (.ve .fz))
    (he : PE X e (tV c ta fa)) (ca : coe ta .fz = true) (hs : swapsWith e (some (.Name x p')) pos.line X.env = pure false) :
    PS X (.Assign [.Name x p'] e pos) (tS c rt fun δ => bndS (fa δ) δ fun d => some (.nx (δ.set i (some d)))) := by
  refine PS.imp (ps_set hN hi hx he hs hf) fun D σ H h => ?_
  obtain ⟨F, δ, E, h⟩ := h
  refine tV.goS ca E h fun d v F1 H1 u1 E1 ⟨A, hx⟩ h1 => ?_
  exact Gs.nx h1 (EnvOk.setVe E1 hk hx.is)
/-- a name whose list may be changed gets a new one -/
theorem st_own {i : Nat} {p' : Pos} (hN : X.N.Nodup) (hi : X.N[i]? = some x) (hx : Loc X.env.scope x) (hf : X.fn x = true ∨ X.env.scope.names.lookup x = some .local) (hk : c.Ks[i]? = some (.ow o))
    (he : PE X e (tV c ta fa)) (ca : ta = .fr o) (hs : swapsWith e (some (.Name x p')) pos.line X.env = pure false) :
    PS X (.Assign [.Name x p'] e pos) (tS c rt fun δ => bndS (fa δ) δ fun d => some (.nx (δ.set i (some d)))) := by
  subst ca
  refine PS.imp (ps_set hN hi hx he hs hf) fun D σ H h => ?_
  obtain ⟨F, δ, E, h⟩ := h
  refine tV.goP E h fun d v F1 H1 u1 E1 p h1 => ?_
  obtain ⟨A, ow, nd, nn⟩ := p
  exact Gs.nx h1 (EnvOk.setOw E u1 hk ow nd nn)
/-- a, b = e -/
theorem st_tup {t : Tg} (hg : PG X tg (tG c t)) (he : PE X e (tV c ta fa)) (ca : coe ta .fz = true) (hs : swapsWithSole [tg] e pos.line X.env = pure false) (hw : swappedStores [tg] e X.env = pure none)
    (h1 : (assignEach [tg] X.env).map (·.2) = [assign tg X.env]) :
    PS X (.Assign [tg] e pos) (tS c rt fun δ => bndS (fa δ) δ fun d => (bindT t d δ).map .nx) := by
  refine PS.imp (ps_asg he hg hs hw h1) fun D σ H h => ?_
  obtain ⟨F, δ, E, h⟩ := h
  refine tV.goS ca E h fun d v F1 H1 u1 E1 ⟨A, hx⟩ h1 => ?_
  cases e : bindT t d δ with
  | none => rw [e] at h1; exact h1.elim
  | some δ' =>
    rw [e] at h1
    exact ⟨F1, δ, d, δ', E1, hx.is, e, fun σ' _ E' => h1 σ' F1 H1 (Same.refl _) E'⟩
theorem EnvOk.toUp {K : PySem.W.Frag} {Ks : List Kd} {F0 : Hp} (E : EnvOk K Ks F0 G F H σ δ) : Up F0 G F H := ⟨E.f0, E.gh, E.fr, E.fh⟩
/-- return e, frozen -/
theorem st_ret (he : PE X e (tV c ta fa)) (ca : coe ta .fz = true) : PS X (.Return (some e) pos) (tS c (.vw .fz) fun δ => bndS (fa δ) δ fun d => some (.ret d δ)) := by
  refine PS.imp (ps_ret he) fun D σ H h => ?_
  obtain ⟨F, δ, E, h⟩ := h
  refine tV.goS ca E h fun d v F1 H1 u1 E1 ⟨A, hx⟩ h1 => ?_
  exact h1 v σ F1 H1 E1 ⟨[], Own.of_is hx.is⟩
/-- .. what was made since the entry -/
theorem st_retFr (he : PE X e (tV c ta fa)) (ca : ta = .fr o) : PS X (.Return (some e) pos) (tS c (.fr o) fun δ => bndS (fa δ) δ fun d => some (.ret d δ)) := by
  subst ca
  refine PS.imp (ps_ret he) fun D σ H h => ?_
  obtain ⟨F, δ, E, h⟩ := h
  refine tV.goP E h fun d v F1 H1 u1 E1 p h1 => ?_
  exact h1 v σ F1 H1 E1 (p.up E.gh)
/-- .. a name's own list -/
theorem st_retOw {i : Nat} (hN : X.N[i]? = some x) (hv : Vis X.env.scope x) (hd : (x == ("__debug__" : Str)) = false) (hcd : (x == ("__classdict__" : Str)) = false) (hk : c.Ks[i]? = some (.ow o)) :
    PS X (.Return (some (.Name x p)) pos) (tS c (.fr o) fun δ => bndS (evVar i δ) δ fun d => some (.ret d (δ.set i none))) := by
  refine PS.imp (ps_ret (pe_var hN hv hd hcd)) fun D σ H h => ?_
  obtain ⟨F, δ, E, h⟩ := h
  change Gs c (.fr o) F D (bndS (evVar i δ) δ fun d => some (.ret d (δ.set i none))) at h
  unfold evVar at h
  cases e : δ[i]? with
  | none => rw [e] at h; exact h.elim
  | some q =>
    cases q with
    | none => rw [e] at h; exact h.elim
    | some d =>
      rw [e] at h
      obtain ⟨As, h1, h2, h3, h4⟩ := EnvOk.sl E
      obtain ⟨v, e1, s⟩ := h1 i _ d hk e
      refine ⟨v, e1, h v σ F H (EnvOk.unset E i) ⟨As i, s, h2 i, fun a ha => ?_⟩⟩
      obtain ⟨x1, x2, x3⟩ := h4 i a ha
      exact ⟨x2, x1⟩
theorem st_retN : PS X (.Return none pos) (tS c (.vw .fz) fun δ => some (.ret .non δ)) := by
  refine PS.imp ps_retN fun D σ H h => ?_
  obtain ⟨F, δ, E, h⟩ := h
  exact h .non σ F H E ⟨[], Own.of_is (by simp only [Is])⟩
theorem st_pass : PS X (.Pass pos) (tS c rt fun δ => some (.nx δ)) := by
  refine PS.imp ps_pass fun D σ H h => ?_
  obtain ⟨F, δ, E, h⟩ := h
  exact Gs.nx h E
theorem st_break : PS X (.Break pos) (tS c rt fun δ => some (.brk δ)) := by
  refine PS.imp ps_break fun D σ H h => ?_
  obtain ⟨F, δ, E, h⟩ := h
  exact h σ F H (Same.refl _) E
theorem st_cont : PS X (.Continue pos) (tS c rt fun δ => some (.ct δ)) := by
  refine PS.imp ps_continue fun D σ H h => ?_
  obtain ⟨F, δ, E, h⟩ := h
  exact h σ F H (Same.refl _) E
/-- an expression for its errors alone -/
theorem st_expr (he : PE X e (tV c ta fa)) (hs : swapsWith e none pos.line X.env = pure false) : PS X (.Expr e pos) (tS c rt fun δ => bndS (fa δ) δ fun _ => some (.nx δ)) := by
  refine PS.imp (ps_expr he hs) fun D σ H h => ?_
  obtain ⟨F, δ, E, h⟩ := h
  exact tV.goP E h fun d v F1 H1 u1 E1 p h1 => Gs.nx h1 E1
theorem st_if {ga gb : So} {sa sb : List Stmt} (hc : PT X e (tT c fc)) (ha : PSs X sa (tS c rt ga)) (hb : PSs X sb (tS c rt gb)) : PS X (.If e sa sb pos) (tS c rt fun δ => bndSB (fc δ) δ fun b => if b then ga δ else gb δ) := by
  refine PS.imp (ps_if hc ha hb) fun D σ H h => ?_
  obtain ⟨F, δ, E, h⟩ := h
  refine tT.goS E h fun b F1 H1 u1 E1 h1 => ?_
  cases b with
  | true => exact ⟨F1, δ, E1, h1⟩
  | false => exact ⟨F1, δ, E1, h1⟩
/-! ### loops -/
def forGo (t : Tg) (body : So) : List D → So
  | [], δ => some (.nx δ)
  | d :: ds, δ => (bindT t d δ).bind fun δ1 => match body δ1 with
    | some (.nx δ2) => forGo t body ds δ2
    | some (.ct δ2) => forGo t body ds δ2
    | some (.brk δ2) => some (.nx δ2)
    | r => r
def bndSL (r : Option RL) (δ : Env) (k : List D → Option Out) : Option Out := match r with
  | some (.ok d) => k d
  | some (.ex x) => some (.ex x δ)
  | none => none
/-- what of an outcome a loop hands on -/
theorem st_for {iter : Expr} {body : List Stmt} {gm : Gm} {t : Tg} {g : So} {fi : Env → Option RL} (hp : PassesOwn (model X.prog X.w) X.A X.env X.xe) (hc : X.calm = true) (hi : PI X tg iter (tI c gm fi)) (hg : PG X tg (tG c t)) (hb : PSs X body (tS c rt g))
    (hgm : gm ≠ .nw) (hs : ∀ x, foldedSetIterable iter X.env x = pure x) : PS X (.For tg iter body [] pos) (tS c rt fun δ => bndSL (fi δ) δ fun ds => forGo t g ds δ) := by
  refine PS.imp (ps_for hp hc hi hg hb hs) fun D σ H h => ?_
  obtain ⟨F, δ, E, h⟩ := h
  change Gs c rt F D (bndSL (fi δ) δ _) at h
  refine ⟨F, δ, E, ?_⟩
  cases e : fi δ with
  | none => rw [e] at h; exact h
  | some r =>
    rw [e] at h
    cases r with
    | ex x => exact Gs.bad h E
    | ok ds =>
      intro J F1 H1 u w
      change Gs c rt F D (forGo t g ds δ) at h
      refine ⟨fun i m σ H => m = ds.length - i ∧ i ≤ ds.length ∧ ∃ F δ, c.E F H σ δ ∧ Same F1 F ∧ Gs c rt F D (forGo t g (ds.drop i) δ), ⟨ds.length, by simp, Nat.zero_le _, F1, δ, E.up u, Same.refl _, by simpa using Gs.up h u.ff⟩, ?_⟩
      rintro i m σ2 H2 ⟨rfl, hle, F2, δ2, E2, s2, h2⟩
      have s3 : Same (gm.hp c H1) H2 := by
        cases gm with
        | fz => exact fun _ _ e => nomatch e
        | en => exact E2.gh
        | nw => exact absurd rfl hgm
      obtain ⟨w1, w2⟩ := w F2 H2 s2 E2.fh s3 i
      by_cases hlt : i < ds.length
      · have hd : ds[i]? = some ds[i] := List.getElem?_eq_getElem hlt
        obtain ⟨go, y1⟩ := w1 _ hd
        rw [drop_get hd] at h2
        refine .inr ⟨go, fun σ' H' => (ds.length - (i + 1) = ds.length - (i + 1) ∧ i + 1 ≤ ds.length ∧ ∃ F δ, c.E F H' σ' δ ∧ Same F1 F ∧ Gs c rt F D (forGo t g (ds.drop (i + 1)) δ)), fun σ' H' n => ⟨_, by omega, n⟩, fun x H' y => ?_⟩
        obtain ⟨F', u', hx⟩ := y1 x H' y
        simp only [forGo] at h2
        cases e1 : bindT t ds[i] δ2 with
        | none => rw [e1] at h2; exact h2.elim
        | some δ1 =>
          rw [e1] at h2
          refine ⟨F', δ2, ds[i], δ1, E2.up u', hx, e1, fun σ3 _ E3 => ⟨F', δ1, E3, ?_⟩⟩
          have sF : Same F1 F' := s2.trans u'.ff
          have h3 := Gs.up h2 u'.ff
          change Gs c rt F' D (match g δ1 with
            | some (.nx δ2) => forGo t g (ds.drop (i + 1)) δ2
            | some (.ct δ2) => forGo t g (ds.drop (i + 1)) δ2
            | some (.brk δ2) => some (.nx δ2)
            | r => r) at h3
          cases e2 : g δ1 with
          | none => rw [e2] at h3; exact h3
          | some r =>
            rw [e2] at h3
            cases r with
            | nx δ4 => exact fun σ4 F4 H4 s4 E4 => ⟨rfl, hlt, F4, δ4, E4, sF.trans s4, Gs.up h3 s4⟩
            | ct δ4 => exact fun σ4 F4 H4 s4 E4 => ⟨rfl, hlt, F4, δ4, E4, sF.trans s4, Gs.up h3 s4⟩
            | brk δ4 => exact fun σ4 F4 H4 s4 E4 => h3 σ4 F4 H4 s4 E4
            | ret d δ4 => exact h3
            | ex x δ4 => exact h3
      · have ei : i = ds.length := by omega
        subst ei
        rw [List.drop_length] at h2
        exact .inl ⟨w2 (Nat.le_refl _), h2 σ2 F2 H2 (Same.refl _) E2⟩
def whGo (tst : Env → Option R) (body : So) : Nat → So
  | 0, _ => none
  | n + 1, δ => bndSB (tst δ) δ fun b => if b then (match body δ with
      | some (.nx δ2) => whGo tst body n δ2
      | some (.ct δ2) => whGo tst body n δ2
      | some (.brk δ2) => some (.nx δ2)
      | r => r) else some (.nx δ)
theorem st_while {body : List Stmt} {g : So} {n : Nat} (hp : PassesOwn (model X.prog X.w) X.A X.env X.xe) (hc : PT X e (tT c fc)) (hb : PSs X body (tS c rt g)) : PS X (.While e body [] pos) (tS c rt (whGo fc g n)) := by
  refine PS.imp (ps_while hp hc hb) fun D σ H h => ?_
  obtain ⟨F, δ, E, h⟩ := h
  refine ⟨fun m σ H => ∃ F δ, c.E F H σ δ ∧ Gs c rt F D (whGo fc g m δ), ⟨n, F, δ, E, h⟩, ?_⟩
  rintro m σ2 H2 ⟨F2, δ2, E2, h2⟩
  cases m with
  | zero => exact h2.elim
  | succ m =>
    simp only [whGo] at h2
    refine tT.goS E2 h2 fun b F1 H1 u1 E1 h1 => ?_
    cases b with
    | false => exact Gs.nx h1 E1
    | true =>
      refine ⟨fun σ' H' => ∃ F δ, c.E F H' σ' δ ∧ Gs c rt F D (whGo fc g m δ), fun σ' H' q => ⟨m, by omega, q⟩, F1, δ2, E1, ?_⟩
      change Gs c rt F1 D (match g δ2 with
        | some (.nx δ2) => whGo fc g m δ2
        | some (.ct δ2) => whGo fc g m δ2
        | some (.brk δ2) => some (.nx δ2)
        | r => r) at h1
      cases e2 : g δ2 with
      | none => rw [e2] at h1; exact h1
      | some r =>
        rw [e2] at h1
        cases r with
        | nx δ4 => exact fun σ4 F4 H4 s4 E4 => ⟨F4, δ4, E4, Gs.up h1 s4⟩
        | ct δ4 => exact fun σ4 F4 H4 s4 E4 => ⟨F4, δ4, E4, Gs.up h1 s4⟩
        | brk δ4 => exact fun σ4 F4 H4 s4 E4 => h1 σ4 F4 H4 s4 E4
        | ret d δ4 => exact h1
        | ex x δ4 => exact h1
end Ev

set_option maxHeartbeats 4000000
/-! Ev, part K: defs; a name's list frozen for the rest; append and the like. -/
namespace Ev
open PySem PySem.Spec PyProof.Rows L2
variable {X : Cx} {c : Cp} {F G H F' G' H' : Hp} {σ : L2.St} {δ : Env} {a b e tg : Expr} {es : List Expr} {pos p : Pos} {x : Str} {ta tb tc ty rt : Ty} {oa ob oc o : OT} {os : List OT} {fa fb fc : Env → Option R} {fs : Env → Option RL} {st : Stmt} {ss : List Stmt}
/-! ### freezing a name for the rest of a suite -/
def unsO (i : Nat) : Option Out → Option Out
  | some (.nx δ) => some (.nx (δ.set i none))
  | some (.brk δ) => some (.brk (δ.set i none))
  | some (.ct δ) => some (.ct (δ.set i none))
  | some (.ret d δ) => some (.ret d (δ.set i none))
  | some (.ex x δ) => some (.ex x (δ.set i none))
  | none => none
def Cp.fz (c : Cp) (i : Nat) : Cp := { c with Ks := c.Ks.set i (.ve .fz) }
theorem EnvOk.fzTo {K : PySem.W.Frag} {Ks : List Kd} {F0 : Hp} (E : EnvOk K Ks F0 G F H σ δ) {i : Nat} (hk : Ks[i]? = some (.ow o)) : ∃ F', Same F F' ∧ EnvOk K (Ks.set i (.ve .fz)) F0 G F' H σ δ := by
  obtain ⟨As, h1, h2, h3, h4⟩ := EnvOk.sl E
  have hi : i < Ks.length := (List.getElem?_eq_some_iff.mp hk).1
  have sF : Same F (frz F H (As i)) := frz_ff E.fh
  have sH : Same (frz F H (As i)) H := frz_fh E.fh
  refine ⟨frz F H (As i), sF, by rw [List.length_set]; exact E.ls, by rw [List.length_set]; exact E.ld, E.gh, E.f0.trans sF, sH, fun b e g => ?_, fun j => if j = i then [] else As j, fun j k d e1 e2 => ?_, fun j => ?_, fun j l b ha hb => ?_, fun j b ha => ?_⟩
  · by_cases hb : b ∈ As i
    · exact absurd (h4 i b hb).2.1 g
    · rw [frz_out hb]; exact E.fr b e g
  · by_cases e : j = i
    · subst e
      rw [List.getElem?_set_self hi] at e1
      cases e1
      obtain ⟨v, e3, s⟩ := h1 j _ d hk e2
      exact ⟨v, e3, [], Own.of_is (Own.freeze sF (show Own K F H o d v (As j) from s) fun a ha => frz_in ha)⟩
    · rw [List.getElem?_set_ne (Ne.symm e)] at e1
      obtain ⟨v, e3, s⟩ := h1 j k d e1 e2
      refine ⟨v, e3, ?_⟩
      cases k with
      | ve o =>
        obtain ⟨B, s⟩ := s
        exact ⟨B, s.frame sF fun _ _ => rfl⟩
      | ow o =>
        show Own K _ H o d v (if j = i then [] else As j)
        rw [if_neg e]
        exact Own.frame sF (show Own K F H o d v (As j) from s) fun _ _ => rfl
  · show (if j = i then [] else As j).Nodup
    split
    · exact List.nodup_nil
    · exact h2 j
  · have ha' : b ∈ (if j = i then [] else As j) := ha
    have hb' : b ∈ (if l = i then [] else As l) := hb
    split at ha' <;> split at hb'
    · cases ha'
    · cases ha'
    · cases hb'
    · exact h3 j l b ha' hb'
  · have ha' : b ∈ (if j = i then [] else As j) := ha
    split at ha'
    · cases ha'
    · rename_i ne
      obtain ⟨x1, x2, x3⟩ := h4 j b ha'
      refine ⟨?_, x2, x3⟩
      rw [frz_out fun hb => ne (h3 j i b ha' hb)]
      exact x1
theorem EnvOk.fzBack {K : PySem.W.Frag} {Ks : List Kd} {F0 : Hp} {i : Nat} {k : Kd} (E : EnvOk K (Ks.set i k) F0 G F H σ δ) : EnvOk K Ks F0 G F H σ (δ.set i none) := by
  obtain ⟨As, h1, h2, h3, h4⟩ := EnvOk.sl E
  refine ⟨by have := E.ls; rwa [List.length_set] at this, by have := E.ld; rw [List.length_set] at this ⊢; exact this, E.gh, E.f0, E.fh, E.fr, As, fun j k' d e1 e2 => ?_, h2, h3, h4⟩
  rcases getElem?_set_or e2 with ⟨rfl, e3⟩ | ⟨ne, e3⟩
  · cases e3
  · exact h1 j k' d (by rw [List.getElem?_set_ne (Ne.symm ne)]; exact e1) e3
theorem ss_frz {i : Nat} {g : So} (hk : c.Ks[i]? = some (.ow o)) (h : PSs X ss (tS (c.fz i) rt g)) : PSs X ss (tS c rt fun δ => unsO i (g δ)) := by
  refine PSs.imp h fun D σ H h => ?_
  obtain ⟨F, δ, E, h⟩ := h
  obtain ⟨F', sF, E'⟩ := EnvOk.fzTo E hk
  refine ⟨F', δ, E', ?_⟩
  change Gs c rt F D (unsO i (g δ)) at h
  cases e : g δ with
  | none => rw [e] at h; exact h
  | some r =>
    rw [e] at h
    cases r with
    | nx δ => exact fun σ F2 H2 s2 E2 => h σ F2 H2 (sF.trans s2) (EnvOk.fzBack E2)
    | brk δ => exact fun σ F2 H2 s2 E2 => h σ F2 H2 (sF.trans s2) (EnvOk.fzBack E2)
    | ct δ => exact fun σ F2 H2 s2 E2 => h σ F2 H2 (sF.trans s2) (EnvOk.fzBack E2)
    | ret d δ => exact fun v σ F2 H2 E2 p => h v σ F2 H2 (EnvOk.fzBack E2) p
    | ex x δ => exact fun cls u dx σ F2 H2 r s2 E2 xr => h cls u dx σ F2 H2 r (sF.trans s2) (EnvOk.fzBack E2) xr
/-! ### a name's list -/
theorem EnvOk.lst {K : PySem.W.Frag} {Ks : List Kd} {F0 : Hp} (E : EnvOk K Ks F0 G F H σ δ) {i : Nat} {ds : List D} (hk : Ks[i]? = some (.ow (.lst .fz))) (hd : δ[i]? = some (some (.lst ds))) :
    ∃ l vs, σ[i]? = some (some (.ref l)) ∧ H l = some (.lst vs) ∧ IsL K F ds vs ∧ ∀ ds' vs', IsL K F ds' vs' → EnvOk K Ks F0 G F (upd H l (.lst vs')) σ (δ.set i (some (.lst ds'))) := by
  obtain ⟨As, h1, h2, h3, h4⟩ := EnvOk.sl E
  obtain ⟨v, e, s⟩ := h1 i _ _ hk hd
  have s' : Own K F H (.lst .fz) (.lst ds) v (As i) := s
  simp only [Own] at s'
  obtain ⟨l, vs, B, rfl, hl, hL, eA⟩ := s'
  obtain ⟨eB, hI⟩ := hL.fz
  subst eB
  refine ⟨l, vs, e, hl, hI, fun ds' vs' hI' => EnvOk.put E hk hd e fun A hA nA fA => ?_⟩
  simp only [Own] at hA
  obtain ⟨l2, vs2, B2, e2, hl2, hL2, rfl⟩ := hA
  cases e2
  obtain ⟨eB2, _⟩ := hL2.fz
  subst eB2
  have fl : F l = none := fA l (by simp)
  refine ⟨[l], ?_, by simp, Same.refl _, fun b u q => ?_, fun b q _ => q, fun b hb => .inl hb, fun b hb => ?_, fun b hb _ => ?_⟩
  · simp only [Own]
    exact ⟨l, vs', [], rfl, upd_same, OwnL.of_fz hI', rfl⟩
  · have ne : b ≠ l := fun z => by rw [z, fl] at q; cases q
    rw [upd_ne ne]; exact E.fh b u q
  · have : b = l := by simpa using hb
    rw [this]; exact fl
  · have ne : b ≠ l := fun z => hb (by simp [z])
    rw [upd_ne ne]
def lstAt (δ : Env) (i : Nat) : Option (List D) := match δ[i]? with
  | some (some (.lst ds)) => some ds
  | _ => none
theorem lstAt_some {i : Nat} {ds : List D} (h : lstAt δ i = some ds) : δ[i]? = some (some (.lst ds)) := by
  unfold lstAt at h
  split at h
  · rename_i q; cases h; exact q
  · cases h
def appO (i : Nat) (d : D) (δ : Env) : Option Out := (lstAt δ i).bind fun ds => if ds.length < sizeLine then some (.nx (δ.set i (some (.lst (ds ++ [d]))))) else none
theorem isL_app {K : PySem.W.Frag} : ∀ {ds es : List D} {vs ws : List V}, IsL K F ds vs → IsL K F es ws → IsL K F (ds ++ es) (vs ++ ws)
  | [], es, vs, ws, h, h2 => by simp only [IsL] at h; subst h; exact h2
  | d :: ds, es, vs, ws, h, h2 => by
    simp only [IsL] at h
    obtain ⟨v, r, rfl, h1, h3⟩ := h
    exact ⟨v, r ++ ws, rfl, h1, isL_app h3 h2⟩
variable {apos cpos : Pos}
theorem Gs.none {D : Ends} (h : Gs c rt F D none) : False := h
theorem bind_someO {α : Type} {r : Option α} {k : α → Option Out} {D : Ends} (h : Gs c rt F D (r.bind k)) : ∃ x, r = some x ∧ Gs c rt F D (k x) := by
  cases r with
  | none => exact h.elim
  | some x => exact ⟨x, rfl, h⟩
theorem st_append {i : Nat} (hK : X.K = c.K) (hN : X.N[i]? = some x) (hv : Vis X.env.scope x) (hd : (x == ("__debug__" : Str)) = false) (hcd : (x == ("__classdict__" : Str)) = false) (hk : c.Ks[i]? = some (.ow (.lst .fz)))
    (ha : PE X a (tV c ta fa)) (ca : coe ta .fz = true)
    (hbase : attributeBase (.Name x p) "append" X.env (eval (.Name x p) X.env) = eval (.Name x p) X.env)
    (hfew : ((backTo cpos (starEach [a] X.env)).all (fun x => !x.1) && (backToKw cpos (keywordEach [] X.env)).all (fun x => x.1.isSome) && decide ([a].length + ([] : List Keyword).length + (if ([] : List Keyword).isEmpty then 0 else 1) < 30)) = true)
    (hline : (apos.endLine == cpos.line) = true) (hs : starEach [a] X.env = (false, eval a X.env) :: starEach [] X.env) (hplain : (backTo cpos (starEach [] X.env)).any (·.1) = false)
    (hsw : swapsWith (.Call (.Attribute (.Name x p) "append" apos) [a] [] cpos) none pos.line X.env = pure false) :
    PS X (.Expr (.Call (.Attribute (.Name x p) "append" apos) [a] [] cpos) pos) (tS c rt fun δ => (lstAt δ i).bind fun _ => bndS (fa δ) δ fun d => appO i d δ) := by
  refine PS.imp (ps_expr (pe_bm PySem.F.plainAttrs_list PySem.F.slot_list_append PySem.F.type_list_append mt_append (pe_var hN hv hd hcd) (pa_cons ha pa_nil hs) hbase hfew hline hs hplain) hsw) fun D σ H h => ?_
  obtain ⟨F, δ, E, h⟩ := h
  obtain ⟨ds, e1, h⟩ := bind_someO h
  have hd0 := lstAt_some e1
  obtain ⟨l, vs, eσ, hl, hI, _⟩ := EnvOk.lst E hk hd0
  refine ⟨_, eσ, .inl ⟨rfl, vs, SqL.of hl⟩, ?_⟩
  refine tV.goS ca E h fun d v F1 H1 u1 E1 ⟨A, hx⟩ h1 => ?_
  obtain ⟨ds1, e2, h1⟩ := bind_someO h1
  rw [e1] at e2; cases e2
  obtain ⟨l2, vs2, eσ2, hl2, hI2, put⟩ := EnvOk.lst E1 hk hd0
  rw [eσ] at eσ2; cases eσ2
  by_cases g : ds.length < sizeLine
  · rw [if_pos g] at h1
    refine ⟨l, vs2, v, rfl, rfl, hl2, by rw [hI2.length]; exact g, ?_⟩
    exact Gs.nx h1 (put _ _ (isL_app hI2 ⟨v, [], rfl, hx.is, by simp only [IsL]⟩))
  · rw [if_neg g] at h1; exact h1.elim
/-! ### defs -/
def outR (rt : Ty) : Option Out → Option R
  | some (.nx _) => (match rt with | .vw .fz => some (.ok .non) | _ => none)
  | some (.ret d _) => some (.ok d)
  | some (.ex x _) => some (.ex x)
  | _ => none
def startE (n : Nat) (ds : List D) : Env := ds.map some ++ List.replicate (n - ds.length) none
def defF (rt : Ty) (n : Nat) (g : So) : Fn := fun ds => outR rt (g (startE n ds))
theorem ViewL.get {K : PySem.W.Frag} : ∀ {os : List OT} {ds : List D} {vs : List V} {i : Nat} {o : OT} {d : D}, ViewL K F H os ds vs → os[i]? = some o → ds[i]? = some d → ∃ v, vs[i]? = some v ∧ ∃ A, Own K F H o d v A
  | [], ds, vs, i, o, d, h, e1, e2 => by simp at e1
  | o1 :: os, [], vs, i, o, d, h, e1, e2 => by simp at e2
  | o1 :: os, d1 :: ds, vs, 0, o, d, h, e1, e2 => by
    simp only [ViewL] at h
    obtain ⟨v, r, rfl, h1, h2⟩ := h
    cases e1; cases e2
    exact ⟨v, rfl, h1⟩
  | o1 :: os, d1 :: ds, vs, i + 1, o, d, h, e1, e2 => by
    simp only [ViewL] at h
    obtain ⟨v, r, rfl, h1, h2⟩ := h
    exact ViewL.get (os := os) (ds := ds) (vs := r) (i := i) h2 (by simpa using e1) (by simpa using e2)
theorem ViewL.lend {K : PySem.W.Frag} : ∀ {os : List OT} {ds : List D} {vs : List V}, ViewL K F H os ds vs → ds.length = os.length
  | [], [], _, h => rfl
  | o :: os, d :: ds, _, h => by
    simp only [ViewL] at h
    obtain ⟨v, r, rfl, _, h2⟩ := h
    rw [List.length_cons, List.length_cons, ViewL.lend h2]
  | [], _ :: _, _, h => by simp [ViewL] at h
  | _ :: _, [], _, h => by simp [ViewL] at h
theorem startE_get {n i : Nat} {ds : List D} {d : D} (h : (startE n ds)[i]? = some (some d)) : ds[i]? = some d := by
  unfold startE at h
  by_cases hi : i < ds.length
  · rw [List.getElem?_append_left (by simpa using hi), List.getElem?_map] at h
    cases e : ds[i]? with
    | none => rw [e] at h; cases h
    | some q => rw [e] at h; cases h; rfl
  · rw [List.getElem?_append_right (by simpa using hi), List.getElem?_replicate] at h
    split at h <;> cases h
theorem start_get {N : List Str} {vs : List V} {i : Nat} {v : V} (h : vs[i]? = some v) : (L2.start N vs)[i]? = some (some v) := by
  have hi : i < vs.length := (List.getElem?_eq_some_iff.mp h).1
  unfold L2.start
  rw [List.getElem?_append_left (by simpa using hi), List.getElem?_map, h]; rfl
theorem EnvOk.start {K : PySem.W.Frag} {N : List Str} {Ks : List Kd} {ds : List D} {vs : List V} (s : Same F H) (hN : Ks.length = N.length) (hle : os.length ≤ N.length) (hk : Ks.take os.length = os.map .ve) (h : ViewL K F H os ds vs) :
    EnvOk K Ks F H F H (L2.start N vs) (startE N.length ds) := by
  have l1 := h.len
  have l2 := h.lend
  refine ⟨?_, ?_, Same.refl _, Same.refl _, s, fun a e _ => e, fun _ => [], fun i k d e1 e2 => ?_, fun _ => List.nodup_nil, fun _ _ _ h _ => (nomatch h), fun _ _ h => (nomatch h)⟩
  · unfold L2.start
    rw [List.length_append, List.length_map, List.length_replicate, hN]; omega
  · unfold startE
    rw [List.length_append, List.length_map, List.length_replicate, hN]; omega
  · have e3 := startE_get e2
    have hi : i < os.length := by have := (List.getElem?_eq_some_iff.mp e3).1; omega
    have e4 : os[i]? = some os[i] := List.getElem?_eq_getElem hi
    obtain ⟨v, e5, A, ow⟩ := h.get e4 e3
    refine ⟨v, start_get e5, ?_⟩
    have e6 : (Ks.take os.length)[i]? = some (.ve os[i]) := by rw [hk, List.getElem?_map, e4]; rfl
    rw [List.getElem?_take_of_lt hi, e1] at e6
    cases e6
    exact ⟨A, ow⟩
section
variable {P : Program} {w : World} {K : PySem.W.Frag} {mg : Str → Option Value} {base : Heap} {xn qual : Str} {params : Arguments} {body : List Stmt} {scope : Scope} {dvs : List V} {kws : List (Str × V)} {f : Addr} {fd : FuncData}
/-- a def's body, in every context of a call -/
def BodyOk (P : Program) (w : World) (K : PySem.W.Frag) (mg : Str → Option Value) (base : Heap) (N : List Str) (qual : Str) (scope : Scope) (f : Addr) (k : Nat) (Ks : List Kd) (rt : Ty) (body : List Stmt) (g : So) : Prop :=
  ∀ (cdv : Value) (A : Around) (outer : List PySem.Env) (s : Shared) (H : Hp) (E : XK) (c : Cp), Room k (A.deeper (envOfC qual scope s.heap.objs.size f cdv)) → c.K = K → c.Ks = Ks →
    Takes (cxOf (L2.CX P w) P w K mg base N qual scope f cdv A outer s H E) c.W → PSs (cxOf (L2.CX P w) P w K mg base N qual scope f cdv A outer s H E) body (tS c rt g)
theorem def_ok {N ps : List Str} {k : Nat} {sg : Sig} {g : So} {Ks : List Kd} (FD : FunD K xn qual params body scope dvs kws f fd) (S : FnScope N ps scope) (hKs : Ks.length = N.length) (ha : sg.args.length = ps.length) (hle : ps.length ≤ N.length)
    (hk : Ks.take sg.args.length = sg.args.map .ve) (hb : BodyOk P w K mg base N qual scope f k Ks sg.ret body g) : FnOk P w K mg base (L2.CX P w) (k + 1) f fd ps (spE K sg (defF sg.ret N.length g)) := by
  refine FD.ok S (fun vs H Q E h => ?_) (fun cdv A outer s H vs Q E hr h => ?_)
  · obtain ⟨F, ds, _, h, _⟩ := h
    rw [h.len, ha]
  · obtain ⟨F, ds, sF, hv, hq⟩ := h
    refine ⟨_, hb cdv A outer s H E ⟨K, Ks, F, H, fun u dx _ H' => E u dx H'⟩ hr rfl rfl (takes_of rfl rfl rfl rfl), ?_⟩
    refine ⟨F, startE N.length ds, EnvOk.start sF hKs (by rw [ha]; exact hle) hk hv, ?_⟩
    change GF K F H sg.ret Q E (outR sg.ret (g (startE N.length ds))) at hq
    cases e : g (startE N.length ds) with
    | none => rw [e] at hq; exact hq
    | some r =>
      rw [e] at hq
      cases r with
      | nx δ =>
        intro σ F' H' s1 E1
        cases q : sg.ret with
        | fr o => rw [q] at hq; exact hq.elim
        | vw o =>
          rw [q] at hq
          cases o with
          | fz => exact hq .non F' H' (EnvOk.toUp E1) ⟨[], Own.of_is (by simp only [Is])⟩
          | _ => exact hq.elim
      | brk δ => exact hq.elim
      | ct δ => exact hq.elim
      | ret d δ => exact fun v σ F' H' E1 p => hq v F' H' (EnvOk.toUp E1) p
      | ex x δ => exact fun cls u dx σ F' H' r s1 E1 xr => hq cls u dx F' H' r (EnvOk.toUp E1) xr
end
end Ev

set_option maxHeartbeats 4000000
/-! Ev, part L: constants, methods of texts, zip. -/
namespace Ev
open PySem PySem.Spec PyProof.Rows L2
variable {X : Cx} {c : Cp} {F G H F' G' H' : Hp} {σ : L2.St} {δ : Env} {a b e tg : Expr} {es : List Expr} {pos p : Pos} {x : Str} {ta tb tc ty rt : Ty} {oa ob oc o : OT} {os : List OT} {fa fb fc : Env → Option R} {fs : Env → Option RL} {st : Stmt} {ss : List Stmt}
/-! ### constants of the module, of a class -/
theorem s_gstr {z : Str} (hg : Gl X x) (hm : ∃ t, X.mg x = some (.str z t)) (hz : PyData.strOk z = true) (hd : (x == ("__debug__" : Str)) = false) : PE X (.Name x pos) (tV c (.vw .fz) fun _ => some (.ok (.str z))) := by
  obtain ⟨t, hm⟩ := hm
  exact s_c (pe_glob hg hm (v := .str z) ⟨t, rfl⟩ hd) fun K H => Is.str hz
theorem s_gint {z : Int} (hg : Gl X x) (hm : ∃ t, X.mg x = some (.int z t)) (hd : (x == ("__debug__" : Str)) = false) : PE X (.Name x pos) (tV c (.vw .fz) fun _ => some (.ok (.int z))) := by
  obtain ⟨t, hm⟩ := hm
  exact s_c (pe_glob hg hm (v := .int z) ⟨t, rfl⟩ hd) fun K H => by simp only [Is]
/-- C.f is the number i -/
def CInt (K : PySem.W.Frag) (C : Addr) (f : Str) (i : Int) : Prop := ∃ mc u, ClX.CRead K C mc ∧ ClX.CVal K C mc f (.int i) u
theorem s_cval {C f : Str} {i : Int} (hg : Gl X C) (hm : X.mg C = some (.ref (He.ga X.K C))) (hc : CInt X.K (He.ga X.K C) f i) (hd : (C == ("__debug__" : Str)) = false)
    (hb : attributeBase (.Name C p) f X.env (eval (.Name C p) X.env) = eval (.Name C p) X.env) : PE X (.Attribute (.Name C p) f pos) (tV c (.vw .fz) fun _ => some (.ok (.int i))) := by
  obtain ⟨mc, u, h1, h2⟩ := hc
  refine PE.imp (ClX.pe_cval (pe_glob hg hm (v := .ref _) rfl hd) hb) fun σ H Q h => ?_
  obtain ⟨F, δ, E, h⟩ := h
  exact ⟨_, mc, .int i, u, rfl, h1, h2, h (.int i) F H (Up.refl E.fh) ⟨[], Own.of_is (by simp only [Is])⟩⟩
def cintB (K : PySem.W.Frag) (C f : Str) (i : Int) : Bool :=
  PySem.W.readsIn K (He.ga K C) (.type "type") && (He.eqO (PySem.W.specialIn K (.ref (He.ga K C)) "__getattribute__") (some (some (.builtin "type.__getattribute__"))) &&
    (match PySem.W.findCls K (.ref (He.ga K C)) (.type "type") f with
      | some (.val (.int j _)) => decide (j = i)
      | _ => false))
theorem cintB_ok {K : PySem.W.Frag} {C f : Str} {i : Int} (h : cintB K C f i = true) : CInt K (He.ga K C) f i := by
  obtain ⟨h1, h0⟩ := He.ba h
  obtain ⟨h2, h3⟩ := He.ba h0
  refine ⟨.type "type", ?_⟩
  cases e : PySem.W.findCls K (.ref (He.ga K C)) (.type "type") f with
  | none => rw [e] at h3; cases h3
  | some r =>
    rw [e] at h3
    cases r with
    | get _ _ _ _ => cases h3
    | val v =>
      cases v with
      | int j t =>
        have ej : j = i := of_decide_eq_true h3
        subst ej
        exact ⟨_, ⟨h1, He.eqO_ok h2⟩, ⟨e, ⟨t, rfl⟩⟩⟩
      | _ => cases h3
/-! ### methods of texts -/
/-- a method's rule on data -/
def MetS (X : Cx) (c : Cp) (id : String) (os : List OT) (ty : Ty) (f : D → List D → Option D) : Prop := ∃ r, MtR X id r ∧
  ∀ (F H : Hp) (x : V) (vs : List V) (dx : D) (ds : List D) (d : D) (A : List Addr) (Q : VK), Same F H → Own c.K F H .bw dx x A → ViewL c.K F H os ds vs → f dx ds = some d → (∀ v F' H', Up F H F' H' → Post c.K H F' H' ty d v → Q v H') → r x vs H Q
def tyOk (T : String) (d : D) : Bool := tyNm d == T && (T == "str" || T == "list" || T == "dict") && (match d with | .ins _ _ => false | _ => true)
theorem tyV_of {K : PySem.W.Frag} {T : String} {d : D} {v : V} {A : List Addr} (hK : X.K = K) (s : Same F H) (h : Own K F H .bw d v A) (ht : tyOk T d = true) : tyV X.K T v H := by
  unfold tyOk at ht
  simp only [Bool.and_eq_true, beq_iff_eq, Bool.or_eq_true] at ht
  obtain ⟨⟨e, e2⟩, e3⟩ := ht
  subst e
  cases d with
  | str z => rw [h.strV.1]; rfl
  | lst ds => obtain ⟨p, vs, rfl, hp, _⟩ := h.lstF rfl s; exact .inl ⟨rfl, vs, SqL.of hp⟩
  | dic ks ds => obtain ⟨p, vs, rfl, hp, _⟩ := h.dict s; exact .inr (.inr (.inl ⟨rfl, .inl ⟨_, hp⟩⟩))
  | lck ns =>
    have q := h.scal rfl
    simp only [Is] at q
    obtain ⟨p, rfl, hp⟩ := q
    exact .inl ⟨rfl, _, hK ▸ s.seq hp⟩
  | ins _ _ => cases e3
  | _ => simp [tyNm] at e2
def mG (T : String) (f : D → List D → Option D) (x : D) (ds : List D) : Option R := okO (f x ds)
theorem s_m {T id : String} {name : Str} {apos cpos : Pos} {f : D → List D → Option D} (hK : X.K = c.K) (h : MetS X c id os ty f) (pa : PlainAttrs T) (slot : Slot T name id) (hty : typeOf (.builtin id) = pure (.type "method_descriptor"))
    (ha : PE X a (tV c ta fa)) (ca : coe ta .bw = true) (hb : PA X (e :: es) (tL c os fs)) (hbase : attributeBase a name X.env (eval a X.env) = eval a X.env)
    (hfew : ((backTo cpos (starEach (e :: es) X.env)).all (fun x => !x.1) && (backToKw cpos (keywordEach [] X.env)).all (fun x => x.1.isSome)
      && decide ((e :: es).length + ([] : List Keyword).length + (if ([] : List Keyword).isEmpty then 0 else 1) < 30)) = true)
    (hline : (apos.endLine == cpos.line) = true) (hs : starEach (e :: es) X.env = (false, eval e X.env) :: starEach es X.env) (hplain : (backTo cpos (starEach es X.env)).any (·.1) = false) :
    PE X (.Call (.Attribute a name apos) (e :: es) [] cpos) (tV c ty fun δ => bnd (fa δ) fun x => if tyOk T x then bndL (fs δ) fun ds => okO (f x ds) else none) := by
  obtain ⟨r, hr, hf⟩ := h
  refine PE.imp (pe_bm pa slot hty hr ha hb hbase hfew hline hs hplain) fun σ H Q h => ?_
  obtain ⟨F, δ, E, h⟩ := h
  refine tV.goV ca E h fun dx x F1 H1 u1 E1 ⟨A, hx⟩ h1 => ?_
  by_cases g : tyOk T dx = true
  · rw [if_pos g] at h1
    refine ⟨tyV_of hK u1.fh hx g, tL.goV E1 h1 fun ds vs F2 H2 u2 E2 w h2 => ?_⟩
    obtain ⟨d, e, q⟩ := h2.okT
    exact hf F2 H2 x vs dx ds d A Q u2.fh (hx.up u2) w e q
  · rw [if_neg g] at h1; exact h1.elim
def strsD : List D → Option (List Str)
  | [] => some []
  | .str z :: r => (strsD r).map (z :: ·)
  | _ => none
theorem strsD_is {K : PySem.W.Frag} : ∀ {ds : List D} {ys : List Str} {vs : List V}, strsD ds = some ys → IsL K F ds vs → vs = ys.map V.str ∧ ∀ y ∈ ys, PyData.strOk y = true
  | [], ys, vs, e, h => by cases e; simp only [IsL] at h; exact ⟨h, fun _ h => nomatch h⟩
  | .str z :: r, ys, vs, e, h => by
    simp only [strsD] at e
    cases e2 : strsD r with
    | none => rw [e2] at e; cases e
    | some zs =>
      rw [e2] at e; cases e
      simp only [IsL] at h
      obtain ⟨v, rv, rfl, h1, h2⟩ := h
      obtain ⟨h3, h4⟩ := strsD_is e2 h2
      simp only [Is] at h1
      refine ⟨by rw [h1.1, h3]; rfl, fun y hy => ?_⟩
      rcases List.mem_cons.mp hy with q | q
      · rw [q]; exact h1.2
      · exact h4 y q
  | .non :: r, ys, vs, e, h => by simp [strsD] at e
  | .bl _ :: r, ys, vs, e, h => by simp [strsD] at e
  | .int _ :: r, ys, vs, e, h => by simp [strsD] at e
  | .tup _ :: r, ys, vs, e, h => by simp [strsD] at e
  | .lst _ :: r, ys, vs, e, h => by simp [strsD] at e
  | .dic _ _ :: r, ys, vs, e, h => by simp [strsD] at e
  | .ins _ _ :: r, ys, vs, e, h => by simp [strsD] at e
  | .lck _ :: r, ys, vs, e, h => by simp [strsD] at e
def joinGo (a : Str) (ds : List D) : Option D := (strsD ds).bind fun ys => if (ys.map (·.length)).sum + ys.length * a.length ≤ 16777216 then some (.str (Txt.join a ys)) else none
def joinD (x : D) (ds : List D) : Option D := match x, ds with
  | .str a, [.lst ds] => joinGo a ds
  | .str a, [.tup ds] => joinGo a ds
  | _, _ => none
theorem strOk_joinS {a : Str} (ha : PyData.strOk a = true) : ∀ {ys : List Str}, (∀ y ∈ ys, PyData.strOk y = true) → PyData.strOk (Str.join a ys) = true
  | [], _ => by rw [strOk_iff]; intro q hq; cases hq
  | [y], h => h y (by simp)
  | y :: z :: r, h => by
    show PyData.strOk (y ++ a ++ Str.join a (z :: r)) = true
    exact strOk_app (strOk_app (h y (by simp)) ha) (strOk_joinS ha (ys := z :: r) fun q hq => h q (List.mem_cons_of_mem _ hq))
theorem strOk_join {a : Str} (ha : PyData.strOk a = true) {ys : List Str} (h : ∀ y ∈ ys, PyData.strOk y = true) : PyData.strOk (Txt.join a ys) = true := by
  rw [TL.join_eq]; exact strOk_joinS ha h
theorem m_join (hK : X.K = c.K) : MetS X c "str.join" [.bw] (.vw .fz) joinD := by
  refine ⟨_, mt_join, fun F H x vs dx ds d A Q s hx w e q => ?_⟩
  cases dx with
  | str z =>
    obtain ⟨hz, ok⟩ := hx.strV
    obtain ⟨dy, y, B, hds, hvs, hy⟩ : ∃ dy y B, ds = [dy] ∧ vs = [y] ∧ Own c.K F H .bw dy y B := view1 w
    subst hds
    subst hvs
    have fin : ∀ (p : Addr) (Bs : List D) (ws : List V), y = .ref p → IsL c.K F Bs ws → joinGo z Bs = some d → (SqL X.K H p ws ∨ SqT X.K H p ws) →
        ∃ a p, ∃ ys : List Str, x = .str a ∧ [y] = [.ref p] ∧ (SqL X.K H p (ys.map V.str) ∨ SqT X.K H p (ys.map V.str)) ∧ (ys.map (·.length)).sum + ys.length * a.length ≤ 16777216 ∧ Q (.str (Txt.join a ys)) H := fun p Bs ws ey hi ej hp => by
      unfold joinGo at ej
      cases e1 : strsD Bs with
      | none => rw [e1] at ej; cases ej
      | some ys =>
        rw [e1] at ej
        obtain ⟨h1, h2⟩ := strsD_is e1 hi
        by_cases g : (ys.map (·.length)).sum + ys.length * z.length ≤ 16777216
        · rw [show ((some ys).bind fun ys => if (ys.map (·.length)).sum + ys.length * z.length ≤ 16777216 then some (D.str (Txt.join z ys)) else none) = some (D.str (Txt.join z ys)) from if_pos g] at ej
          cases ej
          exact ⟨z, p, ys, hz, by rw [ey], by rw [h1] at hp; exact hp, g, q _ F H (Up.refl s) ⟨[], Own.of_is (Is.str (strOk_join ok h2))⟩⟩
        · rw [show ((some ys).bind fun ys => if (ys.map (·.length)).sum + ys.length * z.length ≤ 16777216 then some (D.str (Txt.join z ys)) else none) = none from if_neg g] at ej
          cases ej
    cases dy with
    | lst Bs =>
      obtain ⟨p, ws, e1, hp, hi⟩ := hy.lstF rfl s
      exact fin p Bs ws e1 hi e (.inl (SqL.of hp))
    | tup Bs =>
      obtain ⟨p, ws, e1, hp, hi, _⟩ := hy.tup s
      exact fin p Bs ws e1 hi e (.inr (SqT.of hp))
    | _ => simp [joinD] at e
  | _ => simp [joinD] at e
/-! ### zip -/
def zipL : List D → List D → List D
  | d :: ds, e :: es => .tup [d, e] :: zipL ds es
  | _, _ => []
theorem zipL_get : ∀ {ds es : List D} {i : Nat} {d : D}, (zipL ds es)[i]? = some d → ∃ x y, ds[i]? = some x ∧ es[i]? = some y ∧ d = .tup [x, y]
  | [], es, i, d, h => by simp [zipL] at h
  | x :: ds, [], i, d, h => by simp [zipL] at h
  | x :: ds, y :: es, 0, d, h => by simp [zipL] at h; exact ⟨x, y, rfl, rfl, h.symm⟩
  | x :: ds, y :: es, i + 1, d, h => by simpa using zipL_get (ds := ds) (es := es) (i := i) (by simpa [zipL] using h)
theorem zipL_len : ∀ {ds es : List D} {i : Nat}, (zipL ds es).length ≤ i → ds.length ≤ i ∨ es.length ≤ i
  | [], es, i, h => by simp
  | x :: ds, [], i, h => by simp
  | x :: ds, y :: es, 0, h => by simp [zipL] at h
  | x :: ds, y :: es, i + 1, h => by
    have := zipL_len (ds := ds) (es := es) (i := i) (by simpa [zipL] using h)
    simpa using this
def zipD (l : List D) : Option (List D) := match l with
  | [.lst ds, .lst es] => some (zipL ds es)
  | [.tup ds, .tup es] => some (zipL ds es)
  | _ => none
theorem i_zip {elts : List Expr} {kk : Nat} {tpos pz : Pos} (hK : X.K = c.K) (hg : Gl X "zip") (hm : X.mg "zip" = none) (ha : PA X [a, b] (tL c [.fz, .fz] fs))
    (hs : starEach [a, b] X.env = (false, eval a X.env) :: starEach [b] X.env) (hpl : (backTo pos (starEach [b] X.env)).any (·.1) = false) :
    PI X (.Tuple elts kk tpos) (.Call (.Name "zip" pz) [a, b] [] pos) (tI c .fz fun δ => match fs δ with
      | some (.ok l) => okL (zipD l)
      | r => r) := by
  refine PI.imp (RZ.pi_zipA hg hm ha hs hpl) fun σ H R h => ?_
  obtain ⟨F, δ, E, h⟩ := h
  change GI c .fz F H σ R (match fs δ with
      | some (.ok l) => okL (zipD l)
      | r => r) at h
  refine ⟨F, δ, E, ?_⟩
  cases e : fs δ with
  | none => rw [e] at h; exact h
  | some r =>
    rw [e] at h
    cases r with
    | ex x => exact h
    | ok l =>
      intro vs F1 H1 u w
      change GI c .fz F H σ R (okL (zipD l)) at h
      obtain ⟨d1, d2, v1, v2, A, B, rfl, rfl, o1, o2⟩ := view2 w
      have i1 := o1.is
      have i2 := o2.is
      have tpOk : ∀ {x y : D} {vx vy : V} {F2 H2 : Hp} {T : Addr}, Same F1 F2 → Same F2 H2 → H2 T = none → Is c.K F1 x vx → Is c.K F1 y vy → ∃ F', Up F2 H2 F' (upd H2 T (.tup [vx, vy])) ∧ Is c.K F' (.tup [x, y]) (.ref T) := fun {x y vx vy F2 H2 T} s1 s2 hT hx hy => by
        refine ⟨upd F2 T (.tup [vx, vy]), Up.newF s2 hT, ?_⟩
        have sF : Same F1 (upd F2 T (.tup [vx, vy])) := s1.trans (Up.newF (o := .tup [vx, vy]) s2 hT).ff
        simp only [Is]
        exact ⟨T, _, rfl, upd_same, vx, [vy], rfl, hx.mono sF, vy, [], rfl, hy.mono sF, rfl⟩
      cases d1 with
      | lst ds =>
        cases d2 with
        | lst es =>
          simp only [Is] at i1 i2
          obtain ⟨p, vs, rfl, hp, hi⟩ := i1
          obtain ⟨q, ws, rfl, hq, hj⟩ := i2
          have sq : ∀ F2 H2, Same F1 F2 → Same F2 H2 → SqL X.K H2 p vs ∧ SqL X.K H2 q ws := fun F2 H2 s1 s2 => ⟨SqL.of (s2 _ _ (s1 _ _ hp)), SqL.of (s2 _ _ (s1 _ _ hq))⟩
          obtain ⟨q1, q2⟩ := sq F1 H1 (Same.refl _) u.fh
          refine ⟨p, q, vs, ws, rfl, .inl ⟨q1, q2, h _ F1 H1 u fun F2 H2 s1 s2 _ i => ⟨fun d hd => ?_, fun hl => ?_⟩⟩⟩
          · obtain ⟨x, y, hx, hy, rfl⟩ := zipL_get hd
            obtain ⟨vx, e1, ix⟩ := hi.get hx
            obtain ⟨vy, e2, iy⟩ := hj.get hy
            obtain ⟨q3, q4⟩ := sq F2 H2 s1 s2
            refine ⟨⟨vs, ws, vx, vy, q3, q4, e1, e2⟩, fun x0 H' y0 => ?_⟩
            obtain ⟨T, x1, y1, rfl, hT, rfl, k1, k2⟩ := y0
            have := k1 vs q3
            rw [e1] at this; cases this
            have := k2 ws q4
            rw [e2] at this; cases this
            exact tpOk s1 s2 hT ix iy
          · obtain ⟨q3, q4⟩ := sq F2 H2 s1 s2
            exact ⟨vs, ws, q3, q4, by rw [hi.length, hj.length]; exact zipL_len hl⟩
        | _ => exact h.elim
      | tup ds =>
        cases d2 with
        | tup es =>
          simp only [Is] at i1 i2
          obtain ⟨p, vs, rfl, hp, hi⟩ := i1
          obtain ⟨q, ws, rfl, hq, hj⟩ := i2
          have sq : ∀ F2 H2, Same F1 F2 → Same F2 H2 → SqT X.K H2 p vs ∧ SqT X.K H2 q ws := fun F2 H2 s1 s2 => ⟨SqT.of (s2 _ _ (s1 _ _ hp)), SqT.of (s2 _ _ (s1 _ _ hq))⟩
          obtain ⟨q1, q2⟩ := sq F1 H1 (Same.refl _) u.fh
          refine ⟨p, q, vs, ws, rfl, .inr ⟨q1, q2, h _ F1 H1 u fun F2 H2 s1 s2 _ i => ⟨fun d hd => ?_, fun hl => ?_⟩⟩⟩
          · obtain ⟨x, y, hx, hy, rfl⟩ := zipL_get hd
            obtain ⟨vx, e1, ix⟩ := hi.get hx
            obtain ⟨vy, e2, iy⟩ := hj.get hy
            obtain ⟨q3, q4⟩ := sq F2 H2 s1 s2
            refine ⟨⟨vs, ws, vx, vy, q3, q4, e1, e2⟩, fun x0 H' y0 => ?_⟩
            obtain ⟨T, x1, y1, rfl, hT, rfl, k1, k2⟩ := y0
            have := k1 vs q3
            rw [e1] at this; cases this
            have := k2 ws q4
            rw [e2] at this; cases this
            exact tpOk s1 s2 hT ix iy
          · obtain ⟨q3, q4⟩ := sq F2 H2 s1 s2
            exact ⟨vs, ws, q3, q4, by rw [hi.length, hj.length]; exact zipL_len hl⟩
        | _ => exact h.elim
      | _ => exact h.elim
end Ev

set_option maxHeartbeats 4000000
/-! Ev, part M: y = [..]; names and callees bundled. -/
namespace Ev
open PySem PySem.Spec PyProof.Rows L2
variable {X : Cx} {c : Cp} {F G H F' G' H' : Hp} {σ : L2.St} {δ : Env} {a b e tg : Expr} {es : List Expr} {pos p : Pos} {x : Str} {ta tb tc ty rt : Ty} {oa ob oc o : OT} {os : List OT} {fa fb fc : Env → Option R} {fs : Env → Option RL} {st : Stmt} {ss : List Stmt}
def lcF (t : Tg) (tst : Option (Env → Option R)) (fe : Env → Option R) (fi : Env → Option RL) (own : List Nat) : Env → Option R := fun δ => bndL (fi δ) fun ds => okO (lcD t tst fe (unsetL δ own) ds)
theorem lc_rd {own : List Nat} {gm : Gm} {t : Tg} {tst : Option (Env → Option R)} {fe : Env → Option R} {fi : Env → Option RL} {ety : Ty} (ce : coe ety .fz = true) (hw : ∀ j ∈ tgSlots t, j ∈ own) {σ : L2.St} {H : Hp} {Q : VK}
    (h : tV c (.fr (.lst .fz)) (lcF t tst fe fi own) σ H Q) : tLc (tI c gm fi) (tG c.quiet t) (tTo c.quiet tst) (tV c.quiet ety fe) own σ H Q := by
  obtain ⟨F, δ, E, h⟩ := h
  change Gv c _ F H σ Q (bndL (fi δ) _) at h
  refine ⟨F, δ, E, ?_⟩
  cases e : fi δ with
  | none => rw [e] at h; exact h
  | some r =>
    rw [e] at h
    cases r with
    | ex x => exact h
    | ok ds =>
      intro J F1 H1 u w D0 hD
      change Gv c _ F H σ Q (okO (lcD t tst fe (unsetL δ own) ds)) at h
      obtain ⟨d, e1, q⟩ := h.okT
      unfold lcD at e1
      by_cases hz : ds.length < sizeLine
      · rw [if_pos hz] at e1
        cases e2 : lcGo t tst fe (unsetL δ own) ds with
        | none => rw [e2] at e1; cases e1
        | some es =>
          rw [e2] at e1
          cases e1
          refine lc_turns (E.up u) w hD hz ce hw e2 fun F3 H3 acc u3 f3 h3 i3 => q _ F3 H3 (u.trans u3) ⟨[D0], ?_, by simp, fun a ha => ?_⟩
          · simp only [Own]
            exact ⟨D0, acc, [], rfl, h3, OwnL.of_fz i3, rfl⟩
          · have z : a = D0 := by simpa using ha
            subst z
            exact ⟨u.hh.free hD, f3⟩
      · rw [if_neg hz] at e1; cases e1
/-! ### names, bundled -/
structure Nm (N : List Str) (sc : Scope) (i : Nat) (x : Str) : Prop where
  n : N[i]? = some x
  v : Vis sc x
  d : (x == ("__debug__" : Str)) = false
  cd : (x == ("__classdict__" : Str)) = false
def nmB (N : List Str) (sc : Scope) (i : Nat) (x : Str) : Bool := decide (N[i]? = some x) && (match sc.names.lookup x with
  | some .local => true | some .cell => true | some .free => true | _ => false) && !(x == ("__debug__" : Str)) && !(x == ("__classdict__" : Str))
theorem nm_by {N : List Str} {sc : Scope} {i : Nat} {x : Str} (h : nmB N sc i x = true) : Nm N sc i x := by
  unfold nmB at h
  simp only [Bool.and_eq_true, decide_eq_true_eq, Bool.not_eq_true'] at h
  obtain ⟨⟨⟨h1, h2⟩, h3⟩, h4⟩ := h
  refine ⟨h1, ?_, h3, h4⟩
  unfold Vis
  split at h2
  · rename_i e; exact .inl e
  · rename_i e; exact .inr (.inl e)
  · rename_i e; exact .inr (.inr e)
  · cases h2
structure Lo (N : List Str) (sc : Scope) (i : Nat) (x : Str) : Prop where
  nd : N.Nodup
  n : N[i]? = some x
  l : L2.Loc sc x
def loB (N : List Str) (sc : Scope) (i : Nat) (x : Str) : Bool := decide N.Nodup && decide (N[i]? = some x) && (match sc.names.lookup x with
  | some .local => true | some .cell => true | _ => false)
theorem lo_by {N : List Str} {sc : Scope} {i : Nat} {x : Str} (h : loB N sc i x = true) : Lo N sc i x := by
  unfold loB at h
  simp only [Bool.and_eq_true, decide_eq_true_eq] at h
  refine ⟨h.1.1, h.1.2, ?_⟩
  have h2 := h.2
  unfold L2.Loc
  split at h2
  · rename_i e; exact .inl e
  · rename_i e; exact .inr e
  · cases h2
theorem e_var {i : Nat} {k : Kd} (n : Nm X.N X.env.scope i x) (hk : c.Ks[i]? = some k) : PE X (.Name x pos) (tV c (.vw k.ot) (evVar i)) := s_var n.n n.v n.d n.cd hk
theorem e_set {i : Nat} {p' : Pos} (n : Lo X.N X.env.scope i x) (hk : c.Ks[i]? = some (.ve .fz)) (he : PE X e (tV c ta fa)) (ca : coe ta .fz = true) (hf : X.fn x = true ∨ X.env.scope.names.lookup x = some .local) (hs : swapsWith e (some (.Name x p')) pos.line X.env = pure false) :
    PS X (.Assign [.Name x p'] e pos) (tS c rt fun δ => bndS (fa δ) δ fun d => some (.nx (δ.set i (some d)))) := st_set n.nd n.n n.l hf hk he ca hs
theorem e_own {i : Nat} {p' : Pos} (n : Lo X.N X.env.scope i x) (hk : c.Ks[i]? = some (.ow o)) (he : PE X e (tV c (.fr o) fa)) (hf : X.fn x = true ∨ X.env.scope.names.lookup x = some .local) (hs : swapsWith e (some (.Name x p')) pos.line X.env = pure false) :
    PS X (.Assign [.Name x p'] e pos) (tS c rt fun δ => bndS (fa δ) δ fun d => some (.nx (δ.set i (some d)))) := st_own n.nd n.n n.l hf hk he rfl hs
theorem e_nm {i : Nat} (n : Lo X.N X.env.scope i x) (hk : c.Ks[i]? = some (.ve .fz)) (hf : X.fn x = true ∨ X.env.scope.names.lookup x = some .local) : PG X (.Name x pos) (tG c (.nm i)) := g_nm n.nd n.n n.l hf hk
section
variable {elt tgE iter : Expr} {ifs : List Expr} {scope : Scope} {own : List (Str × Nat)} {gm : Gm} {t : Tg} {tst : Option (Env → Option R)} {fe : Env → Option R} {fi : Env → Option RL} {ety : Ty} {y : Str} {py spos : Pos} {i : Nat}
theorem e_lc (hc : X.calm = true) (hN : X.N.Nodup) (hi : PI X tgE iter (tI c gm fi)) (ok : BlkOk X.N X.env.scope scope own)
    (hg : ∀ (s : Shared) (H : Hp) (C : Addr) (cl : List (Str × Addr)) (fp : List Addr), PG (X.blk s H scope (compEnvC scope cl C X.env) fp) tgE (tG c.quiet t))
    (ht : ∀ (s : Shared) (H : Hp) (C : Addr) (cl : List (Str × Addr)) (fp : List Addr), PTs (X.blk s H scope (compEnvC scope cl C X.env) fp) ifs (tTo c.quiet tst))
    (he : ∀ (s : Shared) (H : Hp) (C : Addr) (cl : List (Str × Addr)) (fp : List Addr), PE (X.blk s H scope (compEnvC scope cl C X.env) fp) elt (tV c.quiet ety fe))
    (ce : coe ety .fz = true) (hw : ∀ j ∈ tgSlots t, j ∈ own.map (·.2)) (hs : ∀ x, foldedSetIterable iter X.env x = pure x) :
    PE X (.ListComp elt [⟨tgE, iter, ifs, 0⟩] scope pos) (tV c (.fr (.lst .fz)) (lcF t tst fe fi (own.map (·.2)))) := s_lc hc hN hi ok hg ht he ce hw hs
theorem e_setLc (hc : X.calm = true) (n : Lo X.N X.env.scope i y) (hyl : X.env.scope.names.lookup y = some .local) (hi : PI X tgE iter (tI c gm fi)) (ok : BlkOk X.N X.env.scope scope own)
    (hg : ∀ (s : Shared) (H : Hp) (C : Addr) (cl : List (Str × Addr)) (fp : List Addr), PG (X.blk s H scope (compEnvC scope cl C X.env) fp) tgE (tG c.quiet t))
    (ht : ∀ (s : Shared) (H : Hp) (C : Addr) (cl : List (Str × Addr)) (fp : List Addr), PTs (X.blk s H scope (compEnvC scope cl C X.env) fp) ifs (tTo c.quiet tst))
    (he : ∀ (s : Shared) (H : Hp) (C : Addr) (cl : List (Str × Addr)) (fp : List Addr), PE (X.blk s H scope (compEnvC scope cl C X.env) fp) elt (tV c.quiet ety fe))
    (ce : coe ety .fz = true) (hw : ∀ j ∈ tgSlots t, j ∈ own.map (·.2)) (hs : ∀ x, foldedSetIterable iter X.env x = pure x) (hsw : swapsWith (.ListComp elt [⟨tgE, iter, ifs, 0⟩] scope pos) (some (.Name y py)) spos.line X.env = pure true)
    (hk : c.Ks[i]? = some (.ve .fz)) : PS X (.Assign [.Name y py] (.ListComp elt [⟨tgE, iter, ifs, 0⟩] scope pos) spos) (tS c rt fun δ => bndS (lcF t tst fe fi (own.map (·.2)) δ) δ fun d => some (.nx (δ.set i (some d)))) := by
  refine PS.imp (ps_setLc hc n.nd n.n hyl hsw hi ok hg ht he hs) fun D σ H h => ?_
  obtain ⟨F, δ, E, h⟩ := h
  refine lc_rd ce hw (tV.goS (oa := .fz) rfl E h fun d v F1 H1 u1 E1 ⟨A, hx⟩ h1 => ?_)
  exact Gs.nx h1 (EnvOk.setVe E1 hk hx.is)
theorem e_ownLc (hc : X.calm = true) (n : Lo X.N X.env.scope i y) (hyl : X.env.scope.names.lookup y = some .local) (hi : PI X tgE iter (tI c gm fi)) (ok : BlkOk X.N X.env.scope scope own)
    (hg : ∀ (s : Shared) (H : Hp) (C : Addr) (cl : List (Str × Addr)) (fp : List Addr), PG (X.blk s H scope (compEnvC scope cl C X.env) fp) tgE (tG c.quiet t))
    (ht : ∀ (s : Shared) (H : Hp) (C : Addr) (cl : List (Str × Addr)) (fp : List Addr), PTs (X.blk s H scope (compEnvC scope cl C X.env) fp) ifs (tTo c.quiet tst))
    (he : ∀ (s : Shared) (H : Hp) (C : Addr) (cl : List (Str × Addr)) (fp : List Addr), PE (X.blk s H scope (compEnvC scope cl C X.env) fp) elt (tV c.quiet ety fe))
    (ce : coe ety .fz = true) (hw : ∀ j ∈ tgSlots t, j ∈ own.map (·.2)) (hs : ∀ x, foldedSetIterable iter X.env x = pure x) (hsw : swapsWith (.ListComp elt [⟨tgE, iter, ifs, 0⟩] scope pos) (some (.Name y py)) spos.line X.env = pure true)
    (hk : c.Ks[i]? = some (.ow (.lst .fz))) : PS X (.Assign [.Name y py] (.ListComp elt [⟨tgE, iter, ifs, 0⟩] scope pos) spos) (tS c rt fun δ => bndS (lcF t tst fe fi (own.map (·.2)) δ) δ fun d => some (.nx (δ.set i (some d)))) := by
  refine PS.imp (ps_setLc hc n.nd n.n hyl hsw hi ok hg ht he hs) fun D σ H h => ?_
  obtain ⟨F, δ, E, h⟩ := h
  refine lc_rd ce hw (tV.goP E h fun d v F1 H1 u1 E1 p h1 => ?_)
  obtain ⟨A, ow, nd, nn⟩ := p
  exact Gs.nx h1 (EnvOk.setOw E u1 hk ow nd nn)
end
/-! ### defs that may be called -/
structure Cal (P : Program) (w : World) (K : PySem.W.Frag) (mg : Str → Option Value) (base : Heap) (x : Str) (k : Nat) (sg : Sig) (φ : Fn) : Prop where
  ex : ∃ (f : Addr) (fd : FuncData) (ps : List Str), FnOk P w K mg base (L2.CX P w) k f fd ps (spE K sg φ) ∧ mg x = some (.ref f) ∧ PySem.W.keepIn K (.ref f) = true ∧ Binds K fd ps []
theorem e_call {k j : Nat} {sg : Sig} {φ : Fn} (C : Cal X.prog X.w X.K X.mg X.base x k sg φ) (hr : Room j X.A) (hj : k ≤ j) (hK : X.K = c.K) (hg : Gl X x) (tk : Takes X c.W) (ha : PA X (e :: es) (tL c sg.args fs)) (hdb : (x == ("__debug__" : Str)) = false)
    (he : starEach (e :: es) X.env = (false, eval e X.env) :: starEach es X.env) (hpl : (backTo pos (starEach es X.env)).any (·.1) = false) :
    PE X (.Call (.Name x p) (e :: es) [] pos) (tV c sg.ret fun δ => bndL (fs δ) φ) := s_call (k := k) ⟨C.ex⟩ hK (hr.mono hj) hg tk ha hdb he hpl
theorem takes_quiet {W : WX} (h : ∀ a b d e, ¬ W a b d e) : Takes X W := fun u s' x => by
  obtain ⟨a, B, sI, pins, σ, H, cls, d, _, _, _, _, _, _, _, _, w⟩ := x
  exact (h _ _ _ _ w).elim
end Ev

set_option maxHeartbeats 4000000
/-! Ev, part N: short words for what a program prints. -/
namespace Ev
open PySem PySem.Spec PyProof.Rows L2
variable {X : Cx} {c : Cp} {F G H F' G' H' : Hp} {σ : L2.St} {δ : Env} {a b e tg : Expr} {es : List Expr} {pos p : Pos} {x : Str} {ta tb tc ty rt : Ty} {oa ob oc o : OT} {os : List OT} {fa fb fc : Env → Option R} {fs : Env → Option RL} {st : Stmt} {ss : List Stmt}
/-! ### the functions -/
abbrev EF := Env → Option R
def fC (d : D) : EF := fun _ => some (.ok d)
def fBin (f : D → D → Option D) (fa fb : EF) : EF := fun δ => bnd (fa δ) fun x => bnd (fb δ) fun y => okO (f x y)
def fCmp (f : D → D → Option Bool) (fa fb : EF) : EF := fun δ => bnd (fa δ) fun x => bnd (fb δ) fun y => okB (f x y)
def fNot (fa : EF) : EF := fun δ => bndB (fa δ) fun b => some (.ok (.bl (!b)))
def fAnd (fa fb : EF) : EF := fun δ => bndB (fa δ) fun x => if x then fb δ else some (.ok (.bl false))
def fOr (fa fb : EF) : EF := fun δ => bndB (fa δ) fun x => if x then some (.ok (.bl true)) else fb δ
def fIf (fc fa fb : EF) : EF := fun δ => bndB (fc δ) fun x => if x then fa δ else fb δ
def fChain (f f' : D → D → Option Bool) (fa fb fc : EF) : EF := fun δ => bnd (fa δ) fun x => bnd (fb δ) fun y => bndB (okB (f x y)) fun k => if k then bnd (fc δ) fun z => okB (f' y z) else some (.ok (.bl false))
def fIx (fa fb : EF) : EF := fun δ => bnd (fa δ) fun x => bnd (fb δ) fun y => okO (ixD x y)
def fSl (fa : EF) (pl pu : Option EF) : EF := fun δ => bnd (fa δ) fun x => evP pl δ fun l => evP pu δ fun u => okO (slD x l u)
abbrev EL := Env → Option RL
def lNil : EL := fun _ => some (.ok [])
def lCons (fa : EF) (fs : EL) : EL := fun δ => consL (fa δ) (fs δ)
def fTup (fs : EL) : EF := fun δ => bndL (fs δ) fun ds => some (.ok (.tup ds))
def fLst (fs : EL) : EF := fun δ => bndL (fs δ) fun ds => some (.ok (.lst ds))
def fBi (g : List D → Option D) (fs : EL) : EF := fun δ => bndL (fs δ) fun ds => okO (g ds)
def fCall (φ : Fn) (fs : EL) : EF := fun δ => bndL (fs δ) φ
def fIsi (t : Tn) (fa : EF) : EF := fun δ => bnd (fa δ) fun d => okB (t.has d)
def fFld (f : Str) (fa : EF) : EF := fun δ => bnd (fa δ) fun d => okO (fldD f d)
def fM (T : String) (f : D → List D → Option D) (fa : EF) (fs : EL) : EF := fun δ => bnd (fa δ) fun x => if tyOk T x then bndL (fs δ) fun ds => okO (f x ds) else none
def iVal (fa : EF) : EL := fun δ => bndI (fa δ) fun d => okL (itemsD d)
def iRng1 (fa : EF) : EL := fun δ => bndI (fa δ) fun d => okL (rngF1 d)
def iRng2 (fa fb : EF) : EL := fun δ => bndI (fa δ) fun d => bndI (fb δ) fun d' => okL (rngF2 d d')
def iZip (fs : EL) : EL := fun δ => match fs δ with
  | some (.ok l) => okL (zipD l)
  | r => r
def sSet (i : Nat) (fa : EF) : So := fun δ => bndS (fa δ) δ fun d => some (.nx (δ.set i (some d)))
def sTup (t : Tg) (fa : EF) : So := fun δ => bndS (fa δ) δ fun d => (bindT t d δ).map .nx
def sRet (fa : EF) : So := fun δ => bndS (fa δ) δ fun d => some (.ret d δ)
def sRetOw (i : Nat) : So := fun δ => bndS (evVar i δ) δ fun d => some (.ret d (δ.set i none))
def sRetN : So := fun δ => some (.ret .non δ)
def sNx : So := fun δ => some (.nx δ)
def sBrk : So := fun δ => some (.brk δ)
def sCt : So := fun δ => some (.ct δ)
def sEx (fa : EF) : So := fun δ => bndS (fa δ) δ fun _ => some (.nx δ)
def sIf (fc : EF) (ga gb : So) : So := fun δ => bndSB (fc δ) δ fun b => if b then ga δ else gb δ
def sFor (t : Tg) (fi : EL) (g : So) : So := fun δ => bndSL (fi δ) δ fun ds => forGo t g ds δ
def sSeq (g k : So) : So := fun δ => seqO (g δ) k
def sFrz (i : Nat) (g : So) : So := fun δ => unsO i (g δ)
def sApp (i : Nat) (fa : EF) : So := fun δ => (lstAt δ i).bind fun _ => bndS (fa δ) δ fun d => appO i d δ
def op (p : Int → Int → Bool) : D → D → Option Bool := cmpI p
def pLt : Int → Int → Bool := fun i j => decide (i < j)
def pLe : Int → Int → Bool := fun i j => decide (i ≤ j)
def pGt : Int → Int → Bool := fun i j => decide (j < i)
def pGe : Int → Int → Bool := fun i j => decide (j ≤ i)
def neD (x y : D) : Option Bool := (eqD x y).map (!·)
def isnD (x y : D) : Option Bool := (isN x y).map (!·)
/-! ### constants -/
theorem e_int {i : Int} {j pos} : PE X (.Constant (.int i) j pos) (tV c (.vw .fz) (fC (.int i))) := s_c pe_int fun _ _ => by simp only [Is]
theorem e_str {z : Str} {j pos} (hz : PyData.strOk z = true) : PE X (.Constant (.str z) j pos) (tV c (.vw .fz) (fC (.str z))) := s_c pe_str fun _ _ => Is.str hz
theorem e_bl {b : Bool} {j pos} : PE X (.Constant (.bool b) j pos) (tV c (.vw .fz) (fC (.bl b))) := s_c pe_bl fun _ _ => by simp only [Is]
theorem e_non {j pos} : PE X (.Constant .none j pos) (tV c (.vw .fz) (fC .non)) := s_c pe_non fun _ _ => by simp only [Is]
theorem e_neg {i : Int} {j pos p2} : PE X (.UnaryOp .USub (.Constant (.int i) j p2) pos) (tV c (.vw .fz) (fC (.int (-i)))) := by
  refine PE.imp (pe_un un_neg pe_int) fun σ H Q h => ?_
  obtain ⟨F, δ, E, h⟩ := h
  exact ⟨i, rfl, h _ F H (Up.refl E.fh) ⟨[], Own.of_is (by simp only [Is])⟩⟩
theorem s_chainV {op op' : CmpOp} {e3 : Expr} {f f' : D → D → Option Bool} (ho : OpS X c (compareOp op) oa ob fun x y => (f x y).map D.bl) (ho' : OpS X c (compareOp op') ob oc fun x y => (f' x y).map D.bl)
    (ha : PE X a (tV c ta fa)) (hb : PE X b (tV c tb fb)) (h3 : PE X e3 (tV c tc fc)) (ca : coe ta oa = true) (cb : coe tb ob = true) (cc : coe tc oc = true)
    (hm : lastMarks [op, op'] [b, e3] = false) : PE X (.Compare a [op, op'] [b, e3] pos) (tV c (.vw .fz) (fChain f f' fa fb fc)) := by
  obtain ⟨r, hr, hf⟩ := ho
  obtain ⟨r', hr', hf'⟩ := ho'
  refine PE.imp (pe_chain hr hr' ha hb h3 hm) fun σ H Q h => ?_
  obtain ⟨F, δ, E, h⟩ := h
  refine tV.goV ca E h fun dx x F1 H1 u1 E1 hx h1 => ?_
  refine tV.goV cb E1 h1 fun dy y F2 H2 u2 E2 hy h2 => ?_
  obtain ⟨A, hx⟩ := hx
  obtain ⟨B, hy⟩ := hy
  cases e : f dx dy with
  | none => rw [e] at h2; exact h2.elim
  | some k =>
    rw [e] at h2
    refine hf F2 H2 x y dx dy (.bl k) A B _ u2.fh (hx.up u2) hy (by show (f dx dy).map D.bl = _; rw [e]; rfl) fun v F' H' u i => ?_
    simp only [Is] at i
    refine ⟨k, i, ?_⟩
    cases k with
    | false => exact h2 _ F' H' u ⟨[], Own.of_is (by simp only [Is])⟩
    | true =>
      have h3 : Gv c (.vw .fz) F2 H2 σ Q (bnd (fc δ) fun z => okB (f' dy z)) := h2
      refine tV.goV cc (E2.up u) (h3.up u) fun dz z F4 H4 u4 E4 hz h4 => ?_
      obtain ⟨C, hz⟩ := hz
      obtain ⟨k2, e2, q⟩ := h4.okB
      refine hf' F4 H4 y z dy dz (.bl k2) B C _ u4.fh (hy.up (u.trans u4)) hz (by show (f' dy dz).map D.bl = _; rw [e2]; rfl) fun v F' H' u i => ?_
      simp only [Is] at i
      rw [i]; exact q F' H' u
/-! ### a def's names -/
/-- a built-in name as it is seen from a block -/
theorem gl_by {X : Cx} {x : Str} (h : X.env.kindOf x = some .globalImplicit) : Gl X x := h
structure Bi (X : Cx) (x : Str) : Prop where
  g : Gl X x
  m : X.mg x = none
theorem e_bi {id : String} {g : List D → Option D} (B : Bi X x) (h : CallS X c (.builtin id) os ty g) (ha : PA X (e :: es) (tL c os fs)) (hv : bootBuiltins x = some (.builtin id)) (hn : x ≠ "__name__") (hdb : (x == ("__debug__" : Str)) = false)
    (he : starEach (e :: es) X.env = (false, eval e X.env) :: starEach es X.env) (hpl : (backTo pos (starEach es X.env)).any (·.1) = false) :
    PE X (.Call (.Name x p) (e :: es) [] pos) (tV c ty (fBi g fs)) := s_callB h B.g B.m hv ha hn hdb he hpl
theorem e_ty {T : String} {g : List D → Option D} (B : Bi X x) (h : CallS X c (.type T) os ty g) (ha : PA X (e :: es) (tL c os fs)) (hv : bootBuiltins x = some (.type T)) (hn : x ≠ "__name__") (hdb : (x == ("__debug__" : Str)) = false)
    (he : starEach (e :: es) X.env = (false, eval e X.env) :: starEach es X.env) (hpl : (backTo pos (starEach es X.env)).any (·.1) = false) :
    PE X (.Call (.Name x p) (e :: es) [] pos) (tV c ty (fBi g fs)) := s_callTy h B.g B.m hv ha hn hdb he hpl
theorem e_isi {t : Tn} {pi pt : Pos} {xt : Str} (B : Bi X "isinstance") (Bt : Bi X xt) (hK : X.K = c.K) (ha : PE X a (tV c ta fa)) (ca : coe ta .bw = true) (hvt : bootBuiltins xt = some (.type t.nm)) (hn2 : xt ≠ "__name__") (hdb2 : (xt == ("__debug__" : Str)) = false)
    (hs : starEach [a, .Name xt pt] X.env = (false, eval a X.env) :: starEach [.Name xt pt] X.env) :
    PE X (.Call (.Name "isinstance" pi) [a, .Name xt pt] [] pos) (tV c (.vw .fz) (fIsi t fa)) :=
  s_isi hK ha ca B.g B.m rfl Bt.g Bt.m hvt (by decide) (by decide) hn2 hdb2 hs
/-! ### the rules, by these words -/
section
variable {f : D → D → Option D} {h h' : D → D → Option Bool} {e3 : Expr} {rest : List Expr} {g k ga gb : So} {sa sb : List Stmt} {i : Nat} {t : Tg} {gm : Gm} {fi : EL} {p' : Pos}
theorem s_bin' {o : Operator} (ho : OpS X c (binaryOp o) oa ob f) (ha : PE X a (tV c ta fa)) (hb : PE X b (tV c tb fb)) (ca : coe ta oa = true) (cb : coe tb ob = true) : PE X (.BinOp a o b pos) (tV c (.vw .fz) (fBin f fa fb)) := s_bin ho ha hb ca cb
theorem s_cmp' {o : CmpOp} (ho : OpS X c (compareOp o) oa ob fun x y => (h x y).map D.bl) (ha : PE X a (tV c ta fa)) (hb : PE X b (tV c tb fb)) (ca : coe ta oa = true) (cb : coe tb ob = true) (hm : behindInMarks o b = false) : PE X (.Compare a [o] [b] pos) (tV c (.vw .fz) (fCmp h fa fb)) := s_cmp ho ha hb ca cb hm
theorem t_cmp' {o : CmpOp} (ho : OpS X c (compareOp o) oa ob fun x y => (h x y).map D.bl) (ha : PE X a (tV c ta fa)) (hb : PE X b (tV c tb fb)) (ca : coe ta oa = true) (cb : coe tb ob = true) (hm : behindInMarks o b = false) : PT X (.Compare a [o] [b] pos) (tT c (fCmp h fa fb)) := t_cmp ho ha hb ca cb hm
theorem s_in' {neg : Bool} {o : CmpOp} (eo : o = opIn neg) (hu : X.A.units + 65 < cLine) (hK : X.K = c.K) (ha : PE X a (tV c ta fa)) (hb : PE X b (tV c tb fb)) (ca : coe ta .bw = true) (cb : coe tb .bw = true) (hm : behindInMarks (opIn neg) b = false) : PE X (.Compare a [o] [b] pos) (tV c (.vw .fz) (fCmp (inN neg) fa fb)) := by subst eo; exact s_in hu hK ha hb ca cb hm
theorem t_in' {neg : Bool} {o : CmpOp} (eo : o = opIn neg) (hu : X.A.units + 65 < cLine) (hK : X.K = c.K) (ha : PE X a (tV c ta fa)) (hb : PE X b (tV c tb fb)) (ca : coe ta .bw = true) (cb : coe tb .bw = true) (hm : behindInMarks (opIn neg) b = false) : PT X (.Compare a [o] [b] pos) (tT c (fCmp (inN neg) fa fb)) := by subst eo; exact t_in hu hK ha hb ca cb hm
theorem t_not' (ha : PT X a (tT c fa)) : PT X (.UnaryOp .Not a pos) (tT c (fNot fa)) := t_not ha
theorem s_not' (ha : PE X a (tV c ta fa)) (ca : coe ta .fz = true) : PE X (.UnaryOp .Not a pos) (tV c (.vw .fz) (fNot fa)) := s_not ha ca
theorem w_and' (ha : PT X a (tT c fa)) (hb : PW X (.BoolOp .And (b :: rest) pos) (tT c fb)) : PW X (.BoolOp .And (a :: b :: rest) pos) (tT c (fAnd fa fb)) := w_and ha hb
theorem w_or' (ha : PT X a (tT c fa)) (hb : PW X (.BoolOp .Or (b :: rest) pos) (tT c fb)) : PW X (.BoolOp .Or (a :: b :: rest) pos) (tT c (fOr fa fb)) := w_or ha hb
theorem s_and' (ha : PE X a (tV c ta fa)) (ca : coe ta .fz = true) (hb : PE X (.BoolOp .And (b :: rest) pos) (tV c (.vw .fz) fb)) : PE X (.BoolOp .And (a :: b :: rest) pos) (tV c (.vw .fz) (fAnd fa fb)) := s_and ha ca hb
theorem s_or' (ha : PE X a (tV c ta fa)) (ca : coe ta .fz = true) (hb : PE X (.BoolOp .Or (b :: rest) pos) (tV c (.vw .fz) fb)) : PE X (.BoolOp .Or (a :: b :: rest) pos) (tV c (.vw .fz) (fOr fa fb)) := s_or ha ca hb
theorem s_ife' {t : Expr} (hc : PT X t (tT c fc)) (ha : PE X a (tV c ty fa)) (hb : PE X b (tV c ty fb)) : PE X (.IfExp t a b pos) (tV c ty (fIf fc fa fb)) := s_ife hc ha hb
theorem s_chain' {o1 o2 : CmpOp} (ho : OpS X c (compareOp o1) oa ob fun x y => (h x y).map D.bl) (ho' : OpS X c (compareOp o2) ob oc fun x y => (h' x y).map D.bl) (ha : PE X a (tV c ta fa)) (hb : PE X b (tV c tb fb)) (h3 : PE X e3 (tV c tc fc)) (ca : coe ta oa = true) (cb : coe tb ob = true) (cc : coe tc oc = true)
    (hm : lastMarks [o1, o2] [b, e3] = false) : PT X (.Compare a [o1, o2] [b, e3] pos) (tT c (fChain h h' fa fb fc)) := s_chain ho ho' ha hb h3 ca cb cc hm
theorem s_chainV' {o1 o2 : CmpOp} (ho : OpS X c (compareOp o1) oa ob fun x y => (h x y).map D.bl) (ho' : OpS X c (compareOp o2) ob oc fun x y => (h' x y).map D.bl) (ha : PE X a (tV c ta fa)) (hb : PE X b (tV c tb fb)) (h3 : PE X e3 (tV c tc fc)) (ca : coe ta oa = true) (cb : coe tb ob = true) (cc : coe tc oc = true)
    (hm : lastMarks [o1, o2] [b, e3] = false) : PE X (.Compare a [o1, o2] [b, e3] pos) (tV c (.vw .fz) (fChain h h' fa fb fc)) := s_chainV ho ho' ha hb h3 ca cb cc hm
theorem s_ix' (ha : PE X a (tV c (.vw o) fa)) (hb : PE X b (tV c tb fb)) (cb : coe tb .fz = true) (hs : PlainIx b) (hn : NoSl b) (hu : X.A.units + 1 < cLine) (hK : X.K = c.K) (hy : elT o = .fz) : PE X (.Subscript a b pos) (tV c (.vw .fz) (fIx fa fb)) := by
  have := s_ix (pos := pos) ha hb rfl cb hs hn hu hK
  rw [hy] at this
  exact this
theorem s_sl' {lo hi : Option Expr} {p2 : Pos} {pl pu : Option (Ty × EF)} {ql qu : Option EF} (el : pl.map (·.2) = ql) (eu : pu.map (·.2) = qu) (ha : PE X a (tV c (.vw o) fa)) (hl : PO X lo (tP c pl)) (hu : PO X hi (tP c pu)) (ho : elO o = true)
    (cl : ∀ q, pl = some q → Ev.coe q.1 .fz = true) (cu : ∀ q, pu = some q → Ev.coe q.1 .fz = true) : PE X (.Subscript a (.Slice lo hi none p2) pos) (tV c (.vw .fz) (fSl fa ql qu)) := by subst el; subst eu; exact s_sl ha hl hu rfl ho cl cu
theorem a_nil' : PA X [] (tL c [] lNil) := a_nil
theorem a_cons' (he : PE X e (tV c ta fa)) (hr : PA X es (tL c os fs)) (ca : coe ta o = true) (hs : starEach (e :: es) X.env = (false, eval e X.env) :: starEach es X.env) : PA X (e :: es) (tL c (o :: os) (lCons fa fs)) := a_cons he hr ca hs
theorem s_tup' {k : Nat} (he : PA X es (tL c os fs)) (hf : ∀ o ∈ os, o = .fz) (hl : os.length ≤ 1000) : PE X (.Tuple es k pos) (tV c (.vw .fz) (fTup fs)) := s_tup he hf hl
theorem s_lst' (he : PA X es (tL c os fs)) (hf : ∀ o ∈ os, o = .fz) (hl : os.length ≤ 1000) : PE X (.List es pos) (tV c (.fr (.lst .fz)) (fLst fs)) := s_lst he hf hl
theorem s_fld' {f : Str} (hK : X.K = c.K) (hc : ∀ i, f ∈ (clsT i).fields → ClsOk c.K i) (ha : PE X a (tV c ta fa)) (ca : coe ta .fz = true) (hb : attributeBase a f X.env (eval a X.env) = eval a X.env) : PE X (.Attribute a f pos) (tV c (.vw .fz) (fFld f fa)) := s_fld hK hc ha ca hb
theorem e_call' {k j : Nat} {sg : Sig} {φ : Fn} (C : Cal X.prog X.w X.K X.mg X.base x k sg φ) (hr : Room j X.A) (hj : k ≤ j) (hK : X.K = c.K) (hg : Gl X x) (tk : Takes X c.W) (ha : PA X (e :: es) (tL c sg.args fs)) (hdb : (x == ("__debug__" : Str)) = false)
    (he : starEach (e :: es) X.env = (false, eval e X.env) :: starEach es X.env) (hpl : (backTo pos (starEach es X.env)).any (·.1) = false) (hty : sg.ret = ty) : PE X (.Call (.Name x p) (e :: es) [] pos) (tV c ty (fCall φ fs)) := by subst hty; exact e_call C hr hj hK hg tk ha hdb he hpl
theorem s_m' {T id : String} {name : Str} {apos cpos : Pos} {f : D → List D → Option D} (hK : X.K = c.K) (h : MetS X c id os ty f) (pa : PlainAttrs T) (slot : Slot T name id) (hty : typeOf (.builtin id) = pure (.type "method_descriptor"))
    (ha : PE X a (tV c ta fa)) (ca : coe ta .bw = true) (hb : PA X (e :: es) (tL c os fs)) (hbase : attributeBase a name X.env (eval a X.env) = eval a X.env)
    (hfew : ((backTo cpos (starEach (e :: es) X.env)).all (fun x => !x.1) && (backToKw cpos (keywordEach [] X.env)).all (fun x => x.1.isSome)
      && decide ((e :: es).length + ([] : List Keyword).length + (if ([] : List Keyword).isEmpty then 0 else 1) < 30)) = true)
    (hline : (apos.endLine == cpos.line) = true) (hs : starEach (e :: es) X.env = (false, eval e X.env) :: starEach es X.env) (hplain : (backTo cpos (starEach es X.env)).any (·.1) = false) :
    PE X (.Call (.Attribute a name apos) (e :: es) [] cpos) (tV c ty (fM T f fa fs)) := s_m hK h pa slot hty ha ca hb hbase hfew hline hs hplain
theorem i_val' (hK : X.K = c.K) (ha : PE X e (tV c (.vw o) fa)) (ho : elO o = true) (hg : gmOf (.vw o) = gm) : PI X tg e (tI c gm (iVal fa)) := by subst hg; exact i_val hK ha ho
theorem i_rng1' {pr : Pos} (ha : PE X a (tV c ta fa)) (ca : coe ta .bw = true) (hg : Gl X "range") (hm : X.mg "range" = none) (hs : starEach [a] X.env = [(false, eval a X.env)]) : PI X tg (.Call (.Name "range" pr) [a] [] pos) (tI c .fz (iRng1 fa)) := i_rng1 ha ca hg hm hs
theorem i_rng2' {pr : Pos} (ha : PE X a (tV c ta fa)) (hb : PE X b (tV c tb fb)) (ca : coe ta .bw = true) (cb : coe tb .bw = true) (hg : Gl X "range") (hm : X.mg "range" = none)
    (hs : starEach [a, b] X.env = [(false, eval a X.env), (false, eval b X.env)]) (hs2 : starEach [b] X.env = [(false, eval b X.env)]) : PI X tg (.Call (.Name "range" pr) [a, b] [] pos) (tI c .fz (iRng2 fa fb)) := i_rng2 ha hb ca cb hg hm hs hs2
theorem i_zip' {elts : List Expr} {kk : Nat} {tpos pz : Pos} (hK : X.K = c.K) (hg : Gl X "zip") (hm : X.mg "zip" = none) (ha : PA X [a, b] (tL c [.fz, .fz] fs))
    (hs : starEach [a, b] X.env = (false, eval a X.env) :: starEach [b] X.env) (hpl : (backTo pos (starEach [b] X.env)).any (·.1) = false) : PI X (.Tuple elts kk tpos) (.Call (.Name "zip" pz) [a, b] [] pos) (tI c .fz (iZip fs)) := i_zip hK hg hm ha hs hpl
theorem e_set' (n : Lo X.N X.env.scope i x) (hk : c.Ks[i]? = some (.ve .fz)) (he : PE X e (tV c ta fa)) (ca : coe ta .fz = true) (hf : X.fn x = true ∨ X.env.scope.names.lookup x = some .local) (hs : swapsWith e (some (.Name x p')) pos.line X.env = pure false) :
    PS X (.Assign [.Name x p'] e pos) (tS c rt (sSet i fa)) := e_set n hk he ca hf hs
theorem e_own' (n : Lo X.N X.env.scope i x) (hk : c.Ks[i]? = some (.ow o)) (he : PE X e (tV c (.fr o) fa)) (hf : X.fn x = true ∨ X.env.scope.names.lookup x = some .local) (hs : swapsWith e (some (.Name x p')) pos.line X.env = pure false) :
    PS X (.Assign [.Name x p'] e pos) (tS c rt (sSet i fa)) := e_own n hk he hf hs
theorem st_tup' (hg : PG X tg (tG c t)) (he : PE X e (tV c ta fa)) (ca : coe ta .fz = true) (hs : swapsWithSole [tg] e pos.line X.env = pure false) (hw : swappedStores [tg] e X.env = pure none) (h1 : (assignEach [tg] X.env).map (·.2) = [assign tg X.env]) :
    PS X (.Assign [tg] e pos) (tS c rt (sTup t fa)) := st_tup hg he ca hs hw h1
theorem st_ret' (he : PE X e (tV c ta fa)) (ca : coe ta .fz = true) : PS X (.Return (some e) pos) (tS c (.vw .fz) (sRet fa)) := st_ret he ca
theorem st_retFr' (he : PE X e (tV c ta fa)) (ca : ta = .fr o) : PS X (.Return (some e) pos) (tS c (.fr o) (sRet fa)) := st_retFr he ca
theorem st_retOw' (n : Nm X.N X.env.scope i x) (hk : c.Ks[i]? = some (.ow o)) : PS X (.Return (some (.Name x p)) pos) (tS c (.fr o) (sRetOw i)) := st_retOw n.n n.v n.d n.cd hk
theorem st_retN' : PS X (.Return none pos) (tS c (.vw .fz) sRetN) := st_retN
theorem st_pass' : PS X (.Pass pos) (tS c rt sNx) := st_pass
theorem st_break' : PS X (.Break pos) (tS c rt sBrk) := st_break
theorem st_cont' : PS X (.Continue pos) (tS c rt sCt) := st_cont
theorem st_expr' (he : PE X e (tV c ta fa)) (hs : swapsWith e none pos.line X.env = pure false) : PS X (.Expr e pos) (tS c rt (sEx fa)) := st_expr he hs
theorem st_if' (hc : PT X e (tT c fc)) (ha : PSs X sa (tS c rt ga)) (hb : PSs X sb (tS c rt gb)) : PS X (.If e sa sb pos) (tS c rt (sIf fc ga gb)) := st_if hc ha hb
theorem st_for' {iter : Expr} {body : List Stmt} (hp : PassesOwn (model X.prog X.w) X.A X.env X.xe) (hc : X.calm = true) (hi : PI X tg iter (tI c gm fi)) (hg : PG X tg (tG c t)) (hb : PSs X body (tS c rt g))
    (hgm : gm ≠ .nw) (hs : ∀ x, foldedSetIterable iter X.env x = pure x) : PS X (.For tg iter body [] pos) (tS c rt (sFor t fi g)) := st_for hp hc hi hg hb hgm hs
theorem ss_nil' : PSs X [] (tS c rt sNx) := ss_nil
theorem ss_cons' (h1 : PS X st (tS c rt g)) (h2 : PSs X ss (tS c rt k)) : PSs X (st :: ss) (tS c rt (sSeq g k)) := ss_cons h1 h2
theorem ss_frz' (hk : c.Ks[i]? = some (.ow o)) (h : PSs X ss (tS (c.fz i) rt g)) : PSs X ss (tS c rt (sFrz i g)) := ss_frz hk h
theorem st_append' {apos cpos : Pos} (hK : X.K = c.K) (n : Nm X.N X.env.scope i x) (hk : c.Ks[i]? = some (.ow (.lst .fz))) (ha : PE X a (tV c ta fa)) (ca : coe ta .fz = true)
    (hbase : attributeBase (.Name x p) "append" X.env (eval (.Name x p) X.env) = eval (.Name x p) X.env)
    (hfew : ((backTo cpos (starEach [a] X.env)).all (fun x => !x.1) && (backToKw cpos (keywordEach [] X.env)).all (fun x => x.1.isSome) && decide ([a].length + ([] : List Keyword).length + (if ([] : List Keyword).isEmpty then 0 else 1) < 30)) = true)
    (hline : (apos.endLine == cpos.line) = true) (hs : starEach [a] X.env = (false, eval a X.env) :: starEach [] X.env) (hplain : (backTo cpos (starEach [] X.env)).any (·.1) = false)
    (hsw : swapsWith (.Call (.Attribute (.Name x p) "append" apos) [a] [] cpos) none pos.line X.env = pure false) :
    PS X (.Expr (.Call (.Attribute (.Name x p) "append" apos) [a] [] cpos) pos) (tS c rt (sApp i fa)) := st_append hK n.n n.v n.d n.cd hk ha ca hbase hfew hline hs hplain hsw
section
variable {elt tgE iter : Expr} {ifs : List Expr} {scope : Scope} {own : List (Str × Nat)} {tst : Option EF} {fe : EF} {ety : Ty} {y : Str} {py spos : Pos} {ow : List Nat}
theorem e_lc' (hc : X.calm = true) (hN : X.N.Nodup) (hi : PI X tgE iter (tI c gm fi)) (ok : BlkOk X.N X.env.scope scope own)
    (hg : ∀ (s : Shared) (H : Hp) (C : Addr) (cl : List (Str × Addr)) (fp : List Addr), PG (X.blk s H scope (compEnvC scope cl C X.env) fp) tgE (tG c.quiet t))
    (ht : ∀ (s : Shared) (H : Hp) (C : Addr) (cl : List (Str × Addr)) (fp : List Addr), PTs (X.blk s H scope (compEnvC scope cl C X.env) fp) ifs (tTo c.quiet tst))
    (he : ∀ (s : Shared) (H : Hp) (C : Addr) (cl : List (Str × Addr)) (fp : List Addr), PE (X.blk s H scope (compEnvC scope cl C X.env) fp) elt (tV c.quiet ety fe))
    (ce : coe ety .fz = true) (hw : ∀ j ∈ tgSlots t, j ∈ own.map (·.2)) (hs : ∀ x, foldedSetIterable iter X.env x = pure x) (ho : own.map (·.2) = ow) :
    PE X (.ListComp elt [⟨tgE, iter, ifs, 0⟩] scope pos) (tV c (.fr (.lst .fz)) (lcF t tst fe fi ow)) := by subst ho; exact e_lc hc hN hi ok hg ht he ce hw hs
theorem e_setLc' (hc : X.calm = true) (n : Lo X.N X.env.scope i y) (hyl : X.env.scope.names.lookup y = some .local) (hi : PI X tgE iter (tI c gm fi)) (ok : BlkOk X.N X.env.scope scope own)
    (hg : ∀ (s : Shared) (H : Hp) (C : Addr) (cl : List (Str × Addr)) (fp : List Addr), PG (X.blk s H scope (compEnvC scope cl C X.env) fp) tgE (tG c.quiet t))
    (ht : ∀ (s : Shared) (H : Hp) (C : Addr) (cl : List (Str × Addr)) (fp : List Addr), PTs (X.blk s H scope (compEnvC scope cl C X.env) fp) ifs (tTo c.quiet tst))
    (he : ∀ (s : Shared) (H : Hp) (C : Addr) (cl : List (Str × Addr)) (fp : List Addr), PE (X.blk s H scope (compEnvC scope cl C X.env) fp) elt (tV c.quiet ety fe))
    (ce : coe ety .fz = true) (hw : ∀ j ∈ tgSlots t, j ∈ own.map (·.2)) (hs : ∀ x, foldedSetIterable iter X.env x = pure x) (ho : own.map (·.2) = ow)
    (hsw : swapsWith (.ListComp elt [⟨tgE, iter, ifs, 0⟩] scope pos) (some (.Name y py)) spos.line X.env = pure true)
    (hk : c.Ks[i]? = some (.ve .fz)) : PS X (.Assign [.Name y py] (.ListComp elt [⟨tgE, iter, ifs, 0⟩] scope pos) spos) (tS c rt (sSet i (lcF t tst fe fi ow))) := by subst ho; exact e_setLc hc n hyl hi ok hg ht he ce hw hs hsw hk
theorem e_ownLc' (hc : X.calm = true) (n : Lo X.N X.env.scope i y) (hyl : X.env.scope.names.lookup y = some .local) (hi : PI X tgE iter (tI c gm fi)) (ok : BlkOk X.N X.env.scope scope own)
    (hg : ∀ (s : Shared) (H : Hp) (C : Addr) (cl : List (Str × Addr)) (fp : List Addr), PG (X.blk s H scope (compEnvC scope cl C X.env) fp) tgE (tG c.quiet t))
    (ht : ∀ (s : Shared) (H : Hp) (C : Addr) (cl : List (Str × Addr)) (fp : List Addr), PTs (X.blk s H scope (compEnvC scope cl C X.env) fp) ifs (tTo c.quiet tst))
    (he : ∀ (s : Shared) (H : Hp) (C : Addr) (cl : List (Str × Addr)) (fp : List Addr), PE (X.blk s H scope (compEnvC scope cl C X.env) fp) elt (tV c.quiet ety fe))
    (ce : coe ety .fz = true) (hw : ∀ j ∈ tgSlots t, j ∈ own.map (·.2)) (hs : ∀ x, foldedSetIterable iter X.env x = pure x) (ho : own.map (·.2) = ow)
    (hsw : swapsWith (.ListComp elt [⟨tgE, iter, ifs, 0⟩] scope pos) (some (.Name y py)) spos.line X.env = pure true)
    (hk : c.Ks[i]? = some (.ow (.lst .fz))) : PS X (.Assign [.Name y py] (.ListComp elt [⟨tgE, iter, ifs, 0⟩] scope pos) spos) (tS c rt (sSet i (lcF t tst fe fi ow))) := by subst ho; exact e_ownLc hc n hyl hi ok hg ht he ce hw hs hsw hk
theorem p_one {X' : Cx} (h : PT X' a (tT c fa)) : PTs X' [a] (tTo c (some fa)) := pts_one h
theorem p_nil {X' : Cx} : PTs X' [] (tTo c none) := pts_nil
end
end
end Ev

set_option maxHeartbeats 4000000
/-! Ev, part O: the head's hook with facts of one's own; the end of a law. -/
namespace Ev
open PySem PySem.Spec PyProof.Rows L2
abbrev AlE : Type := He.AlD × Bool
def obsE (fa : List He.Fa) (fn : List He.DefD) (ex : PySem.W.Frag → Bool) (K : PySem.W.Frag) : AlE := (He.obsD fa fn K, ex K)
def SaysE (fa : List He.Fa) (fn : List He.DefD) (ex : PySem.W.Frag → Bool) (K : PySem.W.Frag) : Prop := obsE fa fn ex K = (He.valD fn, true)
def obsEG (n : Nat) (fa : List He.Fa) (fn : List He.DefD) (ex : PySem.W.Frag → Bool) (g : Addr → Option Obj) : AlE := obsE fa fn ex (He.frG g (PySem.cStatics :: He.asD g n))
def hookE (n : Nat) (fa : List He.Fa) (fn : List He.DefD) (ex : PySem.W.Frag → Bool) : PySem.W.Hook where
  α := AlE
  obs := fun s => obsEG n fa fn ex s.heap.get?
  val := fun _ => (He.valD fn, true)
  says := fun _ h => ∃ K : PySem.W.Frag, K.In h ∧ SaysE fa fn ex K
  of := fun _ _ e => ⟨_, He.frG_in, e⟩
  keeps := fun _ _ _ ⟨K, hK, c⟩ k => ⟨K, PySem.W.Frag.In.keeps hK k, c⟩
theorem obsEG_eq {n : Nat} {fa : List He.Fa} {fn : List He.DefD} {ex : PySem.W.Frag → Bool} {g : Addr → Option Obj} {s : Shared} (h : ∀ a, g a = s.heap.get? a) : obsEG n fa fn ex g = (hookE n fa fn ex).obs s := by
  have e : g = s.heap.get? := funext h
  rw [e] <;> rfl
theorem SaysE.d {fa : List He.Fa} {fn : List He.DefD} {ex : PySem.W.Frag → Bool} {K : PySem.W.Frag} (c : SaysE fa fn ex K) : He.SaysD fa fn K := congrArg (fun z : AlE => z.1) c
theorem SaysE.x {fa : List He.Fa} {fn : List He.DefD} {ex : PySem.W.Frag → Bool} {K : PySem.W.Frag} (c : SaysE fa fn ex K) : ex K = true := congrArg (fun z : AlE => z.2) c
/-- a law: its script walks to True -/
theorem law_end {K : PySem.W.Frag} {H : Hp} {a : Addr} {ns : List Int} {φ : Fn} (hS : SqL K H a (ns.map V.int)) (h : φ [.lck ns] = some (.ok (.bl true))) :
    spE K ⟨[.fz], .vw .fz⟩ φ [.ref a] H (fun v _ => v = .bl true) fun _ _ _ => False := by
  refine ⟨H, [.lck ns], Same.refl _, ⟨.ref a, [], rfl, ⟨[], Own.of_is ?_⟩, by simp only [ViewL]⟩, ?_⟩
  · simp only [Is]
    exact ⟨a, rfl, hS⟩
  · rw [h]
    intro v F' H' _ p
    obtain ⟨A, p⟩ := p
    have := p.is
    simpa only [Is] using this
theorem law_cx {P : Program} {w : World} (H : Hp) (s : Shared) (e : Value) (s' : Shared) : L2.CX P w [] H s (fun _ _ _ => False) e s' → False := by
  rintro ⟨a, B, H', cls, d, _, _, _, _, _, _, _, h⟩
  exact h
theorem walk_ofW {l : PySem.W.OpenLaw} {n k : Nat} {q : Program} {loose : List Str} {XP : (Str → Option Value) → Heap → Prop} {YP : World → Heap → Prop} {d : DefRec} {x : Str}
    (hn : l.most = some n) (hn2 : n ≤ sizeLine) (hdf : d.params.defaults = []) (hr : Room k callerA)
    (F : ∀ (w : World) (mg : Str → Option Value) (fa : Addr) (h : Heap), YP w h → h.Ns mainGlobals mg → mg d.name = some (.ref fa) →
      ∃ (K : PySem.W.Frag) (fd : FuncData) (sp : Sp), K.In h ∧ (∀ (s : Shared) (u : Value), BindsTo s fd ⟨[u], []⟩ [(x, u)]) ∧
        (∀ (H : Hp) (a : Addr) (ns : List Int), ns.length ≤ n → SqL K H a (ns.map V.int) → sp [.ref a] H (fun v _ => v = .bl true) fun _ _ _ => False) ∧
        ∀ base : Heap, K.In base → base.Ns mainGlobals mg → FnOk l.prog w K mg base (L2.CX l.prog w) k fa fd [x] sp) :
    PySem.W.WalkO q loose XP YP l.row.toRowW d [] (fun f vs => PySem.call f vs) := by
  refine Att.attach_call hn hdf fun w s₀ s₁ mg mb fa o pm cd doc a vs ns G Y ho hd hcd hmg hobj hints hlen hg => ?_
  obtain ⟨K, fd, sp, KX, hb, hsp, hF⟩ := F w mg fa _ Y G.T.g hmg
  exact law_call KX G.T.g G.T.b G.T.builtins G.T.nolimit hg hobj hints (Nat.le_trans hlen hn2) hr hF hb (fun H hO hS => hsp H a ns hlen hS) fun H e s' => law_cx H s₁ e s'
end Ev

set_option maxHeartbeats 4000000
namespace Z
open PySem PySem.Spec PyProof.Rows L2 Ev
def top (i : Nat) : Stmt := PySem.Challenge.pw_heldcalls_k01_names.main.body.getD i (.Pass ⟨0, 0, 0, 0⟩)
structure Fx (K : PySem.W.Frag) (mg : Str → Option Value) : Prop where
  b_len : mg "len" = none
  g_Bounds : mg "Bounds" = some (.ref (He.ga K "Bounds"))
  c_Bounds_LETTERS : CInt K (He.ga K "Bounds") "LETTERS" 8
  g_ALPHABET : ∃ t, mg "ALPHABET" = some (.str "abcdefghijklmnopqrstuvwxyz" t)
  b_int : mg "int" = none
  b_abs : mg "abs" = none
  b_range : mg "range" = none
  b_isinstance : mg "isinstance" = none
  b_bool : mg "bool" = none
  b_str : mg "str" = none
  c_Bounds_LOCKS : CInt K (He.ga K "Bounds") "LOCKS" 5
  c_Bounds_HOOKS : CInt K (He.ga K "Bounds") "HOOKS" 4
  c_Bounds_ROUTINES : CInt K (He.ga K "Bounds") "ROUTINES" 5
  c_Bounds_STATEMENTS : CInt K (He.ga K "Bounds") "STATEMENTS" 10
  c_Bounds_LENGTH : CInt K (He.ga K "Bounds") "LENGTH" 60
  b_zip : mg "zip" = none
abbrev S_is_name : Scope := defScope (top 3)
abbrev N_is_name : List Str := ["word", "letter"]
abbrev K_is_name : List Kd := [.ve .fz, .ve .fz]
theorem sc_is_name : FnScope N_is_name ["word"] S_is_name := ⟨rfl, rfl, rfl, by decide +kernel, rfl, by decide +kernel, by decide +kernel⟩
theorem nd_is_name : N_is_name.Nodup := sc_is_name.nd
theorem nm_is_name_0 : Nm N_is_name S_is_name 0 "word" := nm_by (by kernel_rfl)
theorem lo_is_name_0 : Lo N_is_name S_is_name 0 "word" := lo_by (by kernel_rfl)
theorem nm_is_name_1 : Nm N_is_name S_is_name 1 "letter" := nm_by (by kernel_rfl)
theorem lo_is_name_1 : Lo N_is_name S_is_name 1 "letter" := lo_by (by kernel_rfl)
def g_is_name : So := (sSeq (sIf (fNot (fChain (op pLe) (op pLe) (fC (.int 1)) (fBi lenD (lCons (evVar 0) lNil)) (fC (.int 8)))) (sSeq (sRet (fC (.bl false)))
  sNx) sNx)
  (sSeq (sFor (.nm 1) (iVal (evVar 0)) (sSeq (sIf (fCmp (inN true) (evVar 1) (fC (.str "abcdefghijklmnopqrstuvwxyz"))) (sSeq (sRet (fC (.bl false)))
  sNx) sNx)
  sNx))
  (sSeq (sRet (fC (.bl true)))
  sNx)))
abbrev sg_is_name : Sig := ⟨[.fz], .vw .fz⟩
def φ_is_name : Fn := defF (.vw .fz) 2 g_is_name
theorem body_is_name {P : Program} {w : World} {K : PySem.W.Frag} {mg : Str → Option Value} {base : Heap} {f : Addr} (T : Fx K mg) : BodyOk P w K mg base N_is_name "is_name" S_is_name f 0 K_is_name (.vw .fz) (defBody (top 3)) g_is_name := by
  intro cdv A outer s H E c hr hK hKs tk
  obtain ⟨K', Ks', F0, G, W⟩ := c
  cases hK
  cases hKs
  have hun := hr.un
  have hu1 : (A.deeper (envOfC "is_name" S_is_name s.heap.objs.size f cdv)).units + 1 < cLine := by omega
  have hu64 : (A.deeper (envOfC "is_name" S_is_name s.heap.objs.size f cdv)).units + 64 < cLine := by omega
  have hu65 : (A.deeper (envOfC "is_name" S_is_name s.heap.objs.size f cdv)).units + 65 < cLine := by omega
  refine ss_cons' ?_ ?_
  · refine st_if' ?_ ?_ ?_
    · refine t_not' ?_
      refine s_chain' (ta := .vw .fz) (tb := .vw .fz) (tc := .vw .fz) (o_cmpI op_le) (o_cmpI op_le) ?_ ?_ ?_ (by rfl) (by rfl) (by rfl) (by rfl)
      · exact e_int
      · refine e_bi ⟨gl_by (by kernel_rfl), T.b_len⟩ (b_len (by rfl)) ?_ (by rfl) (by decide +kernel) (by decide +kernel) (by rfl) (by rfl)
        refine a_cons' (o := .bw) (ta := .vw .fz) ?_ ?_ (by rfl) (by rfl)
        · refine e_var (i := 0) (k := .ve .fz) nm_is_name_0 (by rfl)
        exact a_nil'
      refine s_cval (gl_by (by kernel_rfl)) T.g_Bounds T.c_Bounds_LETTERS (by decide +kernel) (by rfl)
    · refine ss_cons' ?_ ?_
      · refine st_ret' (ta := .vw .fz) ?_ (by rfl)
        exact e_bl
      exact ss_nil'
    exact ss_nil'
  refine ss_cons' ?_ ?_
  · refine st_for' (gm := .fz) (t := (.nm 1)) (by exact passes_of rfl) (by rfl) ?_ ?_ ?_ (by nofun) (by intro _; rfl)
    · refine i_val' (o := .fz) (by rfl) ?_ (by rfl) (by rfl)
      refine e_var (i := 0) (k := .ve .fz) nm_is_name_0 (by rfl)
    · refine e_nm (i := 1) lo_is_name_1 (by rfl) (by exact .inl rfl)
    refine ss_cons' ?_ ?_
    · refine st_if' ?_ ?_ ?_
      · refine t_in' (neg := true) (ta := .vw .fz) (tb := .vw .fz) (by rfl) hu65 (by rfl) ?_ ?_ (by rfl) (by rfl) (by rfl)
        · refine e_var (i := 1) (k := .ve .fz) nm_is_name_1 (by rfl)
        refine s_gstr (gl_by (by kernel_rfl)) T.g_ALPHABET (by decide +kernel) (by decide +kernel)
      · refine ss_cons' ?_ ?_
        · refine st_ret' (ta := .vw .fz) ?_ (by rfl)
          exact e_bl
        exact ss_nil'
      exact ss_nil'
    exact ss_nil'
  refine ss_cons' ?_ ?_
  · refine st_ret' (ta := .vw .fz) ?_ (by rfl)
    exact e_bl
  exact ss_nil'
theorem ok_is_name {P : Program} {w : World} {K : PySem.W.Frag} {mg : Str → Option Value} {base : Heap} {f : Addr} {fd : FuncData} (T : Fx K mg) (D : FunD K "is_name" "is_name" (defArgs (top 3)) (defBody (top 3)) (defScope (top 3)) [] [] f fd) (hm : mg "is_name" = some (.ref f)) : Cal P w K mg base "is_name" 1 sg_is_name φ_is_name :=
  ⟨⟨f, fd, ["word"], def_ok D sc_is_name rfl rfl (by decide) rfl (body_is_name T), hm, D.kp, D.bindsN fun _ _ _ _ _ _ us hl => match us, hl with | [_], _ => rfl⟩⟩
abbrev S_law_numbers : Scope := defScope (top 5)
abbrev N_law_numbers : List Str := ["script", "at", "many", "cell", "skip", "size", "found", "k", "mixed"]
abbrev K_law_numbers : List Kd := [.ve .fz, .ve .fz, .ve .fz, .ve .fz, .ve .fz, .ve .fz, .ow (.lst .fz), .ve .fz, .ve .fz]
theorem sc_law_numbers : FnScope N_law_numbers ["script", "at", "many"] S_law_numbers := ⟨rfl, rfl, rfl, by decide +kernel, rfl, by decide +kernel, by decide +kernel⟩
theorem nd_law_numbers : N_law_numbers.Nodup := sc_law_numbers.nd
theorem nm_law_numbers_0 : Nm N_law_numbers S_law_numbers 0 "script" := nm_by (by kernel_rfl)
theorem lo_law_numbers_0 : Lo N_law_numbers S_law_numbers 0 "script" := lo_by (by kernel_rfl)
theorem nm_law_numbers_1 : Nm N_law_numbers S_law_numbers 1 "at" := nm_by (by kernel_rfl)
theorem lo_law_numbers_1 : Lo N_law_numbers S_law_numbers 1 "at" := lo_by (by kernel_rfl)
theorem nm_law_numbers_2 : Nm N_law_numbers S_law_numbers 2 "many" := nm_by (by kernel_rfl)
theorem lo_law_numbers_2 : Lo N_law_numbers S_law_numbers 2 "many" := lo_by (by kernel_rfl)
theorem nm_law_numbers_3 : Nm N_law_numbers S_law_numbers 3 "cell" := nm_by (by kernel_rfl)
theorem lo_law_numbers_3 : Lo N_law_numbers S_law_numbers 3 "cell" := lo_by (by kernel_rfl)
theorem nm_law_numbers_4 : Nm N_law_numbers S_law_numbers 4 "skip" := nm_by (by kernel_rfl)
theorem lo_law_numbers_4 : Lo N_law_numbers S_law_numbers 4 "skip" := lo_by (by kernel_rfl)
theorem nm_law_numbers_5 : Nm N_law_numbers S_law_numbers 5 "size" := nm_by (by kernel_rfl)
theorem lo_law_numbers_5 : Lo N_law_numbers S_law_numbers 5 "size" := lo_by (by kernel_rfl)
theorem nm_law_numbers_6 : Nm N_law_numbers S_law_numbers 6 "found" := nm_by (by kernel_rfl)
theorem lo_law_numbers_6 : Lo N_law_numbers S_law_numbers 6 "found" := lo_by (by kernel_rfl)
theorem nm_law_numbers_7 : Nm N_law_numbers S_law_numbers 7 "k" := nm_by (by kernel_rfl)
theorem lo_law_numbers_7 : Lo N_law_numbers S_law_numbers 7 "k" := lo_by (by kernel_rfl)
theorem nm_law_numbers_8 : Nm N_law_numbers S_law_numbers 8 "mixed" := nm_by (by kernel_rfl)
theorem lo_law_numbers_8 : Lo N_law_numbers S_law_numbers 8 "mixed" := lo_by (by kernel_rfl)
def g_law_numbers : So := (sSeq (sSet 3 (fC (.int 0)))
  (sSeq (sSet 4 (fC (.int 0)))
  (sSeq (sIf (fCmp (op pLt) (evVar 1) (fBi lenD (lCons (evVar 0) lNil))) (sSeq (sSet 3 (fIx (evVar 0) (evVar 1)))
  sNx) (sSeq (sIf (fAnd (fCmp (op pGt) (fBi lenD (lCons (evVar 0) lNil)) (fC (.int 0))) (fCmp (op pLt) (fBi absD (lCons (fIx (evVar 0) (fBin modD (fBi intD (lCons (evVar 1) lNil)) (fBi lenD (lCons (evVar 0) lNil)))) lNil)) (fBin powD (fC (.int 10)) (fC (.int 18))))) (sSeq (sSet 3 (fIx (evVar 0) (fBin modD (fBi intD (lCons (evVar 1) lNil)) (fBi lenD (lCons (evVar 0) lNil)))))
  (sSeq (sSet 4 (fBin mulD (fC (.int 60)) (evVar 1)))
  sNx)) sNx)
  sNx))
  (sSeq (sSet 5 (fBin addD (fBi absD (lCons (evVar 3) lNil)) (fBi intD (lCons (fCmp (op pLt) (evVar 3) (fC (.int 0))) lNil))))
  (sSeq (sSet 6 (fLst lNil))
  (sSeq (sIf (fCmp (op pLt) (evVar 5) (fBin powD (fC (.int 10)) (fC (.int 18)))) (sSeq (sFor (.nm 7) (iRng1 (evVar 2)) (sSeq (sSet 8 (fBin modD (fBi intD (lCons (fBin mulD (evVar 5) (fBin addD (fC (.int 48271)) (fBin mulD (fC (.int 69621)) (fBin addD (evVar 7) (evVar 4))))) lNil)) (fC (.int 2147483647))))
  (sSeq (sApp 6 (fBin modD (fBi intD (lCons (fBin mulD (fBin mulD (evVar 8) (evVar 8)) (fC (.int 16807))) lNil)) (fC (.int 2147483629))))
  sNx)))
  (sSeq (sRetOw 6)
  sNx)) sNx)
  (sSeq (sFor (.nm 7) (iRng1 (evVar 2)) (sSeq (sApp 6 (fBin modD (fBi intD (lCons (evVar 5) lNil)) (fC (.int 100))))
  (sSeq (sSet 5 (fBin divD (evVar 5) (fC (.int 100))))
  sNx)))
  (sSeq (sRetOw 6)
  sNx))))))))
abbrev sg_law_numbers : Sig := ⟨[.fz, .fz, .fz], .fr (.lst .fz)⟩
def φ_law_numbers : Fn := defF (.fr (.lst .fz)) 9 g_law_numbers
theorem body_law_numbers {P : Program} {w : World} {K : PySem.W.Frag} {mg : Str → Option Value} {base : Heap} {f : Addr} (T : Fx K mg) : BodyOk P w K mg base N_law_numbers "_law_numbers" S_law_numbers f 0 K_law_numbers (.fr (.lst .fz)) (defBody (top 5)) g_law_numbers := by
  intro cdv A outer s H E c hr hK hKs tk
  obtain ⟨K', Ks', F0, G, W⟩ := c
  cases hK
  cases hKs
  have hun := hr.un
  have hu1 : (A.deeper (envOfC "_law_numbers" S_law_numbers s.heap.objs.size f cdv)).units + 1 < cLine := by omega
  have hu64 : (A.deeper (envOfC "_law_numbers" S_law_numbers s.heap.objs.size f cdv)).units + 64 < cLine := by omega
  have hu65 : (A.deeper (envOfC "_law_numbers" S_law_numbers s.heap.objs.size f cdv)).units + 65 < cLine := by omega
  refine ss_cons' ?_ ?_
  · refine e_set' (ta := .vw .fz) (i := 3) lo_law_numbers_3 (by rfl) ?_ (by rfl) (by exact .inl rfl) (by rfl)
    exact e_int
  refine ss_cons' ?_ ?_
  · refine e_set' (ta := .vw .fz) (i := 4) lo_law_numbers_4 (by rfl) ?_ (by rfl) (by exact .inl rfl) (by rfl)
    exact e_int
  refine ss_cons' ?_ ?_
  · refine st_if' ?_ ?_ ?_
    · refine t_cmp' (ta := .vw .fz) (tb := .vw .fz) (o_cmpI op_lt) ?_ ?_ (by rfl) (by rfl) (by rfl)
      · refine e_var (i := 1) (k := .ve .fz) nm_law_numbers_1 (by rfl)
      refine e_bi ⟨gl_by (by kernel_rfl), T.b_len⟩ (b_len (by rfl)) ?_ (by rfl) (by decide +kernel) (by decide +kernel) (by rfl) (by rfl)
      refine a_cons' (o := .bw) (ta := .vw .fz) ?_ ?_ (by rfl) (by rfl)
      · refine e_var (i := 0) (k := .ve .fz) nm_law_numbers_0 (by rfl)
      exact a_nil'
    · refine ss_cons' ?_ ?_
      · refine e_set' (ta := .vw .fz) (i := 3) lo_law_numbers_3 (by rfl) ?_ (by rfl) (by exact .inl rfl) (by rfl)
        refine s_ix' (o := .fz) (tb := .vw .fz) ?_ ?_ (by rfl) (by intro _ _; rfl) (by intro _ _; rfl) hu1 (by rfl) (by rfl)
        · refine e_var (i := 0) (k := .ve .fz) nm_law_numbers_0 (by rfl)
        refine e_var (i := 1) (k := .ve .fz) nm_law_numbers_1 (by rfl)
      exact ss_nil'
    refine ss_cons' ?_ ?_
    · refine st_if' ?_ ?_ ?_
      · refine PW.pt ?_
        refine w_and' ?_ ?_
        · refine t_cmp' (ta := .vw .fz) (tb := .vw .fz) (o_cmpI op_gt) ?_ ?_ (by rfl) (by rfl) (by rfl)
          · refine e_bi ⟨gl_by (by kernel_rfl), T.b_len⟩ (b_len (by rfl)) ?_ (by rfl) (by decide +kernel) (by decide +kernel) (by rfl) (by rfl)
            refine a_cons' (o := .bw) (ta := .vw .fz) ?_ ?_ (by rfl) (by rfl)
            · refine e_var (i := 0) (k := .ve .fz) nm_law_numbers_0 (by rfl)
            exact a_nil'
          exact e_int
        refine w_one ?_
        refine t_cmp' (ta := .vw .fz) (tb := .vw .fz) (o_cmpI op_lt) ?_ ?_ (by rfl) (by rfl) (by rfl)
        · refine e_bi ⟨gl_by (by kernel_rfl), T.b_abs⟩ (b_abs) ?_ (by rfl) (by decide +kernel) (by decide +kernel) (by rfl) (by rfl)
          refine a_cons' (o := .bw) (ta := .vw .fz) ?_ ?_ (by rfl) (by rfl)
          · refine s_ix' (o := .fz) (tb := .vw .fz) ?_ ?_ (by rfl) (by intro _ _; rfl) (by intro _ _; rfl) hu1 (by rfl) (by rfl)
            · refine e_var (i := 0) (k := .ve .fz) nm_law_numbers_0 (by rfl)
            refine s_bin' (ta := .vw .fz) (tb := .vw .fz) o_mod ?_ ?_ (by rfl) (by rfl)
            · refine e_ty ⟨gl_by (by kernel_rfl), T.b_int⟩ (b_int) ?_ (by rfl) (by decide +kernel) (by decide +kernel) (by rfl) (by rfl)
              refine a_cons' (o := .bw) (ta := .vw .fz) ?_ ?_ (by rfl) (by rfl)
              · refine e_var (i := 1) (k := .ve .fz) nm_law_numbers_1 (by rfl)
              exact a_nil'
            refine e_bi ⟨gl_by (by kernel_rfl), T.b_len⟩ (b_len (by rfl)) ?_ (by rfl) (by decide +kernel) (by decide +kernel) (by rfl) (by rfl)
            refine a_cons' (o := .bw) (ta := .vw .fz) ?_ ?_ (by rfl) (by rfl)
            · refine e_var (i := 0) (k := .ve .fz) nm_law_numbers_0 (by rfl)
            exact a_nil'
          exact a_nil'
        refine s_bin' (ta := .vw .fz) (tb := .vw .fz) o_pow ?_ ?_ (by rfl) (by rfl)
        · exact e_int
        exact e_int
      · refine ss_cons' ?_ ?_
        · refine e_set' (ta := .vw .fz) (i := 3) lo_law_numbers_3 (by rfl) ?_ (by rfl) (by exact .inl rfl) (by rfl)
          refine s_ix' (o := .fz) (tb := .vw .fz) ?_ ?_ (by rfl) (by intro _ _; rfl) (by intro _ _; rfl) hu1 (by rfl) (by rfl)
          · refine e_var (i := 0) (k := .ve .fz) nm_law_numbers_0 (by rfl)
          refine s_bin' (ta := .vw .fz) (tb := .vw .fz) o_mod ?_ ?_ (by rfl) (by rfl)
          · refine e_ty ⟨gl_by (by kernel_rfl), T.b_int⟩ (b_int) ?_ (by rfl) (by decide +kernel) (by decide +kernel) (by rfl) (by rfl)
            refine a_cons' (o := .bw) (ta := .vw .fz) ?_ ?_ (by rfl) (by rfl)
            · refine e_var (i := 1) (k := .ve .fz) nm_law_numbers_1 (by rfl)
            exact a_nil'
          refine e_bi ⟨gl_by (by kernel_rfl), T.b_len⟩ (b_len (by rfl)) ?_ (by rfl) (by decide +kernel) (by decide +kernel) (by rfl) (by rfl)
          refine a_cons' (o := .bw) (ta := .vw .fz) ?_ ?_ (by rfl) (by rfl)
          · refine e_var (i := 0) (k := .ve .fz) nm_law_numbers_0 (by rfl)
          exact a_nil'
        refine ss_cons' ?_ ?_
        · refine e_set' (ta := .vw .fz) (i := 4) lo_law_numbers_4 (by rfl) ?_ (by rfl) (by exact .inl rfl) (by rfl)
          refine s_bin' (ta := .vw .fz) (tb := .vw .fz) o_mul ?_ ?_ (by rfl) (by rfl)
          · exact e_int
          refine e_var (i := 1) (k := .ve .fz) nm_law_numbers_1 (by rfl)
        exact ss_nil'
      exact ss_nil'
    exact ss_nil'
  refine ss_cons' ?_ ?_
  · refine e_set' (ta := .vw .fz) (i := 5) lo_law_numbers_5 (by rfl) ?_ (by rfl) (by exact .inl rfl) (by rfl)
    refine s_bin' (ta := .vw .fz) (tb := .vw .fz) o_add ?_ ?_ (by rfl) (by rfl)
    · refine e_bi ⟨gl_by (by kernel_rfl), T.b_abs⟩ (b_abs) ?_ (by rfl) (by decide +kernel) (by decide +kernel) (by rfl) (by rfl)
      refine a_cons' (o := .bw) (ta := .vw .fz) ?_ ?_ (by rfl) (by rfl)
      · refine e_var (i := 3) (k := .ve .fz) nm_law_numbers_3 (by rfl)
      exact a_nil'
    refine e_ty ⟨gl_by (by kernel_rfl), T.b_int⟩ (b_int) ?_ (by rfl) (by decide +kernel) (by decide +kernel) (by rfl) (by rfl)
    refine a_cons' (o := .bw) (ta := .vw .fz) ?_ ?_ (by rfl) (by rfl)
    · refine s_cmp' (ta := .vw .fz) (tb := .vw .fz) (o_cmpI op_lt) ?_ ?_ (by rfl) (by rfl) (by rfl)
      · refine e_var (i := 3) (k := .ve .fz) nm_law_numbers_3 (by rfl)
      exact e_int
    exact a_nil'
  refine ss_cons' ?_ ?_
  · refine e_own' (i := 6) lo_law_numbers_6 (by rfl) ?_ (by exact .inl rfl) (by rfl)
    refine s_lst' (os := []) ?_ (by simp) (by decide)
    exact a_nil'
  refine ss_cons' ?_ ?_
  · refine st_if' ?_ ?_ ?_
    · refine t_cmp' (ta := .vw .fz) (tb := .vw .fz) (o_cmpI op_lt) ?_ ?_ (by rfl) (by rfl) (by rfl)
      · refine e_var (i := 5) (k := .ve .fz) nm_law_numbers_5 (by rfl)
      refine s_bin' (ta := .vw .fz) (tb := .vw .fz) o_pow ?_ ?_ (by rfl) (by rfl)
      · exact e_int
      exact e_int
    · refine ss_cons' ?_ ?_
      · refine st_for' (gm := .fz) (t := (.nm 7)) (by exact passes_of rfl) (by rfl) ?_ ?_ ?_ (by nofun) (by intro _; rfl)
        · refine i_rng1' (ta := .vw .fz) ?_ (by rfl) (gl_by (by kernel_rfl)) T.b_range (by rfl)
          refine e_var (i := 2) (k := .ve .fz) nm_law_numbers_2 (by rfl)
        · refine e_nm (i := 7) lo_law_numbers_7 (by rfl) (by exact .inl rfl)
        refine ss_cons' ?_ ?_
        · refine e_set' (ta := .vw .fz) (i := 8) lo_law_numbers_8 (by rfl) ?_ (by rfl) (by exact .inl rfl) (by rfl)
          refine s_bin' (ta := .vw .fz) (tb := .vw .fz) o_mod ?_ ?_ (by rfl) (by rfl)
          · refine e_ty ⟨gl_by (by kernel_rfl), T.b_int⟩ (b_int) ?_ (by rfl) (by decide +kernel) (by decide +kernel) (by rfl) (by rfl)
            refine a_cons' (o := .bw) (ta := .vw .fz) ?_ ?_ (by rfl) (by rfl)
            · refine s_bin' (ta := .vw .fz) (tb := .vw .fz) o_mul ?_ ?_ (by rfl) (by rfl)
              · refine e_var (i := 5) (k := .ve .fz) nm_law_numbers_5 (by rfl)
              refine s_bin' (ta := .vw .fz) (tb := .vw .fz) o_add ?_ ?_ (by rfl) (by rfl)
              · exact e_int
              refine s_bin' (ta := .vw .fz) (tb := .vw .fz) o_mul ?_ ?_ (by rfl) (by rfl)
              · exact e_int
              refine s_bin' (ta := .vw .fz) (tb := .vw .fz) o_add ?_ ?_ (by rfl) (by rfl)
              · refine e_var (i := 7) (k := .ve .fz) nm_law_numbers_7 (by rfl)
              refine e_var (i := 4) (k := .ve .fz) nm_law_numbers_4 (by rfl)
            exact a_nil'
          exact e_int
        refine ss_cons' ?_ ?_
        · refine st_append' (ta := .vw .fz) (i := 6) (by rfl) nm_law_numbers_6 (by rfl) ?_ (by rfl) (by rfl) (by rfl) (by rfl) (by rfl) (by rfl) (by rfl)
          refine s_bin' (ta := .vw .fz) (tb := .vw .fz) o_mod ?_ ?_ (by rfl) (by rfl)
          · refine e_ty ⟨gl_by (by kernel_rfl), T.b_int⟩ (b_int) ?_ (by rfl) (by decide +kernel) (by decide +kernel) (by rfl) (by rfl)
            refine a_cons' (o := .bw) (ta := .vw .fz) ?_ ?_ (by rfl) (by rfl)
            · refine s_bin' (ta := .vw .fz) (tb := .vw .fz) o_mul ?_ ?_ (by rfl) (by rfl)
              · refine s_bin' (ta := .vw .fz) (tb := .vw .fz) o_mul ?_ ?_ (by rfl) (by rfl)
                · refine e_var (i := 8) (k := .ve .fz) nm_law_numbers_8 (by rfl)
                refine e_var (i := 8) (k := .ve .fz) nm_law_numbers_8 (by rfl)
              exact e_int
            exact a_nil'
          exact e_int
        exact ss_nil'
      refine ss_cons' ?_ ?_
      · refine st_retOw' (i := 6) nm_law_numbers_6 (by rfl)
      exact ss_nil'
    exact ss_nil'
  refine ss_cons' ?_ ?_
  · refine st_for' (gm := .fz) (t := (.nm 7)) (by exact passes_of rfl) (by rfl) ?_ ?_ ?_ (by nofun) (by intro _; rfl)
    · refine i_rng1' (ta := .vw .fz) ?_ (by rfl) (gl_by (by kernel_rfl)) T.b_range (by rfl)
      refine e_var (i := 2) (k := .ve .fz) nm_law_numbers_2 (by rfl)
    · refine e_nm (i := 7) lo_law_numbers_7 (by rfl) (by exact .inl rfl)
    refine ss_cons' ?_ ?_
    · refine st_append' (ta := .vw .fz) (i := 6) (by rfl) nm_law_numbers_6 (by rfl) ?_ (by rfl) (by rfl) (by rfl) (by rfl) (by rfl) (by rfl) (by rfl)
      refine s_bin' (ta := .vw .fz) (tb := .vw .fz) o_mod ?_ ?_ (by rfl) (by rfl)
      · refine e_ty ⟨gl_by (by kernel_rfl), T.b_int⟩ (b_int) ?_ (by rfl) (by decide +kernel) (by decide +kernel) (by rfl) (by rfl)
        refine a_cons' (o := .bw) (ta := .vw .fz) ?_ ?_ (by rfl) (by rfl)
        · refine e_var (i := 5) (k := .ve .fz) nm_law_numbers_5 (by rfl)
        exact a_nil'
      exact e_int
    refine ss_cons' ?_ ?_
    · refine e_set' (ta := .vw .fz) (i := 5) lo_law_numbers_5 (by rfl) ?_ (by rfl) (by exact .inl rfl) (by rfl)
      refine s_bin' (ta := .vw .fz) (tb := .vw .fz) o_div ?_ ?_ (by rfl) (by rfl)
      · refine e_var (i := 5) (k := .ve .fz) nm_law_numbers_5 (by rfl)
      exact e_int
    exact ss_nil'
  refine ss_cons' ?_ ?_
  · refine st_retOw' (i := 6) nm_law_numbers_6 (by rfl)
  exact ss_nil'
theorem ok_law_numbers {P : Program} {w : World} {K : PySem.W.Frag} {mg : Str → Option Value} {base : Heap} {f : Addr} {fd : FuncData} (T : Fx K mg) (D : FunD K "_law_numbers" "_law_numbers" (defArgs (top 5)) (defBody (top 5)) (defScope (top 5)) [] [] f fd) (hm : mg "_law_numbers" = some (.ref f)) : Cal P w K mg base "_law_numbers" 1 sg_law_numbers φ_law_numbers :=
  ⟨⟨f, fd, ["script", "at", "many"], def_ok D sc_law_numbers rfl rfl (by decide) rfl (body_law_numbers T), hm, D.kp, D.bindsN fun _ _ _ _ _ _ us hl => match us, hl with | [_, _, _], _ => rfl⟩⟩
abbrev S_law_leaf : Scope := defScope (top 6)
abbrev N_law_leaf : List Str := ["told", "due"]
abbrev K_law_leaf : List Kd := [.ve .fz, .ve .fz]
theorem sc_law_leaf : FnScope N_law_leaf ["told", "due"] S_law_leaf := ⟨rfl, rfl, rfl, by decide +kernel, rfl, by decide +kernel, by decide +kernel⟩
theorem nd_law_leaf : N_law_leaf.Nodup := sc_law_leaf.nd
theorem nm_law_leaf_0 : Nm N_law_leaf S_law_leaf 0 "told" := nm_by (by kernel_rfl)
theorem lo_law_leaf_0 : Lo N_law_leaf S_law_leaf 0 "told" := lo_by (by kernel_rfl)
theorem nm_law_leaf_1 : Nm N_law_leaf S_law_leaf 1 "due" := nm_by (by kernel_rfl)
theorem lo_law_leaf_1 : Lo N_law_leaf S_law_leaf 1 "due" := lo_by (by kernel_rfl)
def g_law_leaf : So := (sSeq (sIf (fCmp (isN) (evVar 1) (fC .non)) (sSeq (sRet (fCmp (isN) (evVar 0) (fC .non)))
  sNx) sNx)
  (sSeq (sIf (fIsi .bool (evVar 1)) (sSeq (sRet (fAnd (fIsi .bool (evVar 0)) (fCmp (eqD) (evVar 0) (evVar 1))))
  sNx) sNx)
  (sSeq (sIf (fIsi .int (evVar 1)) (sSeq (sRet (fAnd (fIsi .int (evVar 0)) (fAnd (fNot (fIsi .bool (evVar 0))) (fCmp (eqD) (evVar 0) (evVar 1)))))
  sNx) sNx)
  (sSeq (sRet (fAnd (fIsi .str (evVar 0)) (fCmp (eqD) (evVar 0) (evVar 1))))
  sNx))))
abbrev sg_law_leaf : Sig := ⟨[.fz, .fz], .vw .fz⟩
def φ_law_leaf : Fn := defF (.vw .fz) 2 g_law_leaf
theorem body_law_leaf {P : Program} {w : World} {K : PySem.W.Frag} {mg : Str → Option Value} {base : Heap} {f : Addr} (T : Fx K mg) : BodyOk P w K mg base N_law_leaf "_law_leaf" S_law_leaf f 0 K_law_leaf (.vw .fz) (defBody (top 6)) g_law_leaf := by
  intro cdv A outer s H E c hr hK hKs tk
  obtain ⟨K', Ks', F0, G, W⟩ := c
  cases hK
  cases hKs
  have hun := hr.un
  have hu1 : (A.deeper (envOfC "_law_leaf" S_law_leaf s.heap.objs.size f cdv)).units + 1 < cLine := by omega
  have hu64 : (A.deeper (envOfC "_law_leaf" S_law_leaf s.heap.objs.size f cdv)).units + 64 < cLine := by omega
  have hu65 : (A.deeper (envOfC "_law_leaf" S_law_leaf s.heap.objs.size f cdv)).units + 65 < cLine := by omega
  refine ss_cons' ?_ ?_
  · refine st_if' ?_ ?_ ?_
    · refine t_cmp' (ta := .vw .fz) (tb := .vw .fz) (o_is) ?_ ?_ (by rfl) (by rfl) (by rfl)
      · refine e_var (i := 1) (k := .ve .fz) nm_law_leaf_1 (by rfl)
      exact e_non
    · refine ss_cons' ?_ ?_
      · refine st_ret' (ta := .vw .fz) ?_ (by rfl)
        refine s_cmp' (ta := .vw .fz) (tb := .vw .fz) (o_is) ?_ ?_ (by rfl) (by rfl) (by rfl)
        · refine e_var (i := 0) (k := .ve .fz) nm_law_leaf_0 (by rfl)
        exact e_non
      exact ss_nil'
    exact ss_nil'
  refine ss_cons' ?_ ?_
  · refine st_if' ?_ ?_ ?_
    · refine t_val (ta := .vw .fz) ?_ (by intro _; rfl) (by rfl)
      refine e_isi (t := .bool) (ta := .vw .fz) ⟨gl_by (by kernel_rfl), T.b_isinstance⟩ ⟨gl_by (by kernel_rfl), T.b_bool⟩ (by rfl) ?_ (by rfl) (by rfl) (by decide +kernel) (by decide +kernel) (by rfl)
      refine e_var (i := 1) (k := .ve .fz) nm_law_leaf_1 (by rfl)
    · refine ss_cons' ?_ ?_
      · refine st_ret' (ta := .vw .fz) ?_ (by rfl)
        refine s_and' (ta := .vw .fz) ?_ (by rfl) ?_
        · refine e_isi (t := .bool) (ta := .vw .fz) ⟨gl_by (by kernel_rfl), T.b_isinstance⟩ ⟨gl_by (by kernel_rfl), T.b_bool⟩ (by rfl) ?_ (by rfl) (by rfl) (by decide +kernel) (by decide +kernel) (by rfl)
          refine e_var (i := 0) (k := .ve .fz) nm_law_leaf_0 (by rfl)
        refine s_one ?_
        refine s_cmp' (ta := .vw .fz) (tb := .vw .fz) (o_eq hu64 (by rfl)) ?_ ?_ (by rfl) (by rfl) (by rfl)
        · refine e_var (i := 0) (k := .ve .fz) nm_law_leaf_0 (by rfl)
        refine e_var (i := 1) (k := .ve .fz) nm_law_leaf_1 (by rfl)
      exact ss_nil'
    exact ss_nil'
  refine ss_cons' ?_ ?_
  · refine st_if' ?_ ?_ ?_
    · refine t_val (ta := .vw .fz) ?_ (by intro _; rfl) (by rfl)
      refine e_isi (t := .int) (ta := .vw .fz) ⟨gl_by (by kernel_rfl), T.b_isinstance⟩ ⟨gl_by (by kernel_rfl), T.b_int⟩ (by rfl) ?_ (by rfl) (by rfl) (by decide +kernel) (by decide +kernel) (by rfl)
      refine e_var (i := 1) (k := .ve .fz) nm_law_leaf_1 (by rfl)
    · refine ss_cons' ?_ ?_
      · refine st_ret' (ta := .vw .fz) ?_ (by rfl)
        refine s_and' (ta := .vw .fz) ?_ (by rfl) ?_
        · refine e_isi (t := .int) (ta := .vw .fz) ⟨gl_by (by kernel_rfl), T.b_isinstance⟩ ⟨gl_by (by kernel_rfl), T.b_int⟩ (by rfl) ?_ (by rfl) (by rfl) (by decide +kernel) (by decide +kernel) (by rfl)
          refine e_var (i := 0) (k := .ve .fz) nm_law_leaf_0 (by rfl)
        refine s_and' (ta := .vw .fz) ?_ (by rfl) ?_
        · refine s_not' (ta := .vw .fz) ?_ (by rfl)
          refine e_isi (t := .bool) (ta := .vw .fz) ⟨gl_by (by kernel_rfl), T.b_isinstance⟩ ⟨gl_by (by kernel_rfl), T.b_bool⟩ (by rfl) ?_ (by rfl) (by rfl) (by decide +kernel) (by decide +kernel) (by rfl)
          refine e_var (i := 0) (k := .ve .fz) nm_law_leaf_0 (by rfl)
        refine s_one ?_
        refine s_cmp' (ta := .vw .fz) (tb := .vw .fz) (o_eq hu64 (by rfl)) ?_ ?_ (by rfl) (by rfl) (by rfl)
        · refine e_var (i := 0) (k := .ve .fz) nm_law_leaf_0 (by rfl)
        refine e_var (i := 1) (k := .ve .fz) nm_law_leaf_1 (by rfl)
      exact ss_nil'
    exact ss_nil'
  refine ss_cons' ?_ ?_
  · refine st_ret' (ta := .vw .fz) ?_ (by rfl)
    refine s_and' (ta := .vw .fz) ?_ (by rfl) ?_
    · refine e_isi (t := .str) (ta := .vw .fz) ⟨gl_by (by kernel_rfl), T.b_isinstance⟩ ⟨gl_by (by kernel_rfl), T.b_str⟩ (by rfl) ?_ (by rfl) (by rfl) (by decide +kernel) (by decide +kernel) (by rfl)
      refine e_var (i := 0) (k := .ve .fz) nm_law_leaf_0 (by rfl)
    refine s_one ?_
    refine s_cmp' (ta := .vw .fz) (tb := .vw .fz) (o_eq hu64 (by rfl)) ?_ ?_ (by rfl) (by rfl) (by rfl)
    · refine e_var (i := 0) (k := .ve .fz) nm_law_leaf_0 (by rfl)
    refine e_var (i := 1) (k := .ve .fz) nm_law_leaf_1 (by rfl)
  exact ss_nil'
theorem ok_law_leaf {P : Program} {w : World} {K : PySem.W.Frag} {mg : Str → Option Value} {base : Heap} {f : Addr} {fd : FuncData} (T : Fx K mg) (D : FunD K "_law_leaf" "_law_leaf" (defArgs (top 6)) (defBody (top 6)) (defScope (top 6)) [] [] f fd) (hm : mg "_law_leaf" = some (.ref f)) : Cal P w K mg base "_law_leaf" 1 sg_law_leaf φ_law_leaf :=
  ⟨⟨f, fd, ["told", "due"], def_ok D sc_law_leaf rfl rfl (by decide) rfl (body_law_leaf T), hm, D.kp, D.bindsN fun _ _ _ _ _ _ us hl => match us, hl with | [_, _], _ => rfl⟩⟩
abbrev S_law_word : Scope := defScope (top 7)
abbrev N_law_word : List Str := ["draws", "letters", "signs", "size", "manner", "word", "cut", "d"]
abbrev K_law_word : List Kd := [.ve .fz, .ve .fz, .ve .fz, .ve .fz, .ve .fz, .ve .fz, .ve .fz, .ve .fz]
theorem sc_law_word : FnScope N_law_word ["draws"] S_law_word := ⟨rfl, rfl, rfl, by decide +kernel, rfl, by decide +kernel, by decide +kernel⟩
theorem nd_law_word : N_law_word.Nodup := sc_law_word.nd
theorem nm_law_word_0 : Nm N_law_word S_law_word 0 "draws" := nm_by (by kernel_rfl)
theorem lo_law_word_0 : Lo N_law_word S_law_word 0 "draws" := lo_by (by kernel_rfl)
theorem nm_law_word_1 : Nm N_law_word S_law_word 1 "letters" := nm_by (by kernel_rfl)
theorem lo_law_word_1 : Lo N_law_word S_law_word 1 "letters" := lo_by (by kernel_rfl)
theorem nm_law_word_2 : Nm N_law_word S_law_word 2 "signs" := nm_by (by kernel_rfl)
theorem lo_law_word_2 : Lo N_law_word S_law_word 2 "signs" := lo_by (by kernel_rfl)
theorem nm_law_word_3 : Nm N_law_word S_law_word 3 "size" := nm_by (by kernel_rfl)
theorem lo_law_word_3 : Lo N_law_word S_law_word 3 "size" := lo_by (by kernel_rfl)
theorem nm_law_word_4 : Nm N_law_word S_law_word 4 "manner" := nm_by (by kernel_rfl)
theorem lo_law_word_4 : Lo N_law_word S_law_word 4 "manner" := lo_by (by kernel_rfl)
theorem nm_law_word_5 : Nm N_law_word S_law_word 5 "word" := nm_by (by kernel_rfl)
theorem lo_law_word_5 : Lo N_law_word S_law_word 5 "word" := lo_by (by kernel_rfl)
theorem nm_law_word_6 : Nm N_law_word S_law_word 6 "cut" := nm_by (by kernel_rfl)
theorem lo_law_word_6 : Lo N_law_word S_law_word 6 "cut" := lo_by (by kernel_rfl)
def g_law_word : So := (sSeq (sSet 1 (fC (.str "abcdefghijklmnopqrstuvwxyz")))
  (sSeq (sSet 2 (fBin addD (evVar 1) (fC (.str " !\"#$&'()*+,-./0123456789:;<=>?@ABCDEFGHIJKLMNOPQRSTUVWXYZ[\\]^_`{|}~\n"))))
  (sSeq (sSet 3 (fBin modD (fBi intD (lCons (fIx (evVar 0) (fC (.int 0))) lNil)) (fC (.int 11))))
  (sSeq (sSet 4 (fBin modD (fBi intD (lCons (fIx (evVar 0) (fC (.int 1))) lNil)) (fC (.int 4))))
  (sSeq (sSet 5 (fM "str" joinD (fC (.str "")) (lCons (lcF (.nm 7) none (fIx (evVar 1) (fBin modD (fBi intD (lCons (evVar 7) lNil)) (fC (.int 26)))) (iVal (fSl (evVar 0) (some (fC (.int 4))) (some (fBin addD (fC (.int 4)) (evVar 3))))) [7]) lNil)))
  (sSeq (sIf (fCmp (eqD) (evVar 4) (fC (.int 3))) (sSeq (sSet 5 (fM "str" joinD (fC (.str "")) (lCons (lcF (.nm 7) none (fIx (evVar 2) (fBin modD (fBi intD (lCons (evVar 7) lNil)) (fBi lenD (lCons (evVar 2) lNil)))) (iVal (fSl (evVar 0) (some (fC (.int 4))) (some (fBin addD (fC (.int 4)) (evVar 3))))) [7]) lNil)))
  sNx) sNx)
  (sSeq (sIf (fCmp (eqD) (evVar 4) (fC (.int 2))) (sSeq (sSet 6 (fBin modD (fBi intD (lCons (fIx (evVar 0) (fC (.int 2))) lNil)) (fBin addD (evVar 3) (fC (.int 1)))))
  (sSeq (sSet 5 (fBin addD (fBin addD (fSl (evVar 5) none (some (evVar 6))) (fIx (evVar 2) (fBin modD (fBi intD (lCons (fIx (evVar 0) (fC (.int 3))) lNil)) (fBi lenD (lCons (evVar 2) lNil))))) (fSl (evVar 5) (some (evVar 6)) none)))
  sNx)) sNx)
  (sSeq (sRet (evVar 5))
  sNx))))))))
abbrev sg_law_word : Sig := ⟨[.fz], .vw .fz⟩
def φ_law_word : Fn := defF (.vw .fz) 8 g_law_word
theorem body_law_word {P : Program} {w : World} {K : PySem.W.Frag} {mg : Str → Option Value} {base : Heap} {f : Addr} (T : Fx K mg) : BodyOk P w K mg base N_law_word "_law_word" S_law_word f 0 K_law_word (.vw .fz) (defBody (top 7)) g_law_word := by
  intro cdv A outer s H E c hr hK hKs tk
  obtain ⟨K', Ks', F0, G, W⟩ := c
  cases hK
  cases hKs
  have hun := hr.un
  have hu1 : (A.deeper (envOfC "_law_word" S_law_word s.heap.objs.size f cdv)).units + 1 < cLine := by omega
  have hu64 : (A.deeper (envOfC "_law_word" S_law_word s.heap.objs.size f cdv)).units + 64 < cLine := by omega
  have hu65 : (A.deeper (envOfC "_law_word" S_law_word s.heap.objs.size f cdv)).units + 65 < cLine := by omega
  refine ss_cons' ?_ ?_
  · refine e_set' (ta := .vw .fz) (i := 1) lo_law_word_1 (by rfl) ?_ (by rfl) (by exact .inl rfl) (by rfl)
    refine e_str (by decide +kernel)
  refine ss_cons' ?_ ?_
  · refine e_set' (ta := .vw .fz) (i := 2) lo_law_word_2 (by rfl) ?_ (by rfl) (by exact .inl rfl) (by rfl)
    refine s_bin' (ta := .vw .fz) (tb := .vw .fz) o_add ?_ ?_ (by rfl) (by rfl)
    · refine e_var (i := 1) (k := .ve .fz) nm_law_word_1 (by rfl)
    refine e_str (by decide +kernel)
  refine ss_cons' ?_ ?_
  · refine e_set' (ta := .vw .fz) (i := 3) lo_law_word_3 (by rfl) ?_ (by rfl) (by exact .inl rfl) (by rfl)
    refine s_bin' (ta := .vw .fz) (tb := .vw .fz) o_mod ?_ ?_ (by rfl) (by rfl)
    · refine e_ty ⟨gl_by (by kernel_rfl), T.b_int⟩ (b_int) ?_ (by rfl) (by decide +kernel) (by decide +kernel) (by rfl) (by rfl)
      refine a_cons' (o := .bw) (ta := .vw .fz) ?_ ?_ (by rfl) (by rfl)
      · refine s_ix' (o := .fz) (tb := .vw .fz) ?_ ?_ (by rfl) (by intro _ _; rfl) (by intro _ _; rfl) hu1 (by rfl) (by rfl)
        · refine e_var (i := 0) (k := .ve .fz) nm_law_word_0 (by rfl)
        exact e_int
      exact a_nil'
    exact e_int
  refine ss_cons' ?_ ?_
  · refine e_set' (ta := .vw .fz) (i := 4) lo_law_word_4 (by rfl) ?_ (by rfl) (by exact .inl rfl) (by rfl)
    refine s_bin' (ta := .vw .fz) (tb := .vw .fz) o_mod ?_ ?_ (by rfl) (by rfl)
    · refine e_ty ⟨gl_by (by kernel_rfl), T.b_int⟩ (b_int) ?_ (by rfl) (by decide +kernel) (by decide +kernel) (by rfl) (by rfl)
      refine a_cons' (o := .bw) (ta := .vw .fz) ?_ ?_ (by rfl) (by rfl)
      · refine s_ix' (o := .fz) (tb := .vw .fz) ?_ ?_ (by rfl) (by intro _ _; rfl) (by intro _ _; rfl) hu1 (by rfl) (by rfl)
        · refine e_var (i := 0) (k := .ve .fz) nm_law_word_0 (by rfl)
        exact e_int
      exact a_nil'
    exact e_int
  refine ss_cons' ?_ ?_
  · refine e_set' (ta := .vw .fz) (i := 5) lo_law_word_5 (by rfl) ?_ (by rfl) (by exact .inl rfl) (by rfl)
    refine s_m' (T := "str") (ta := .vw .fz) (by rfl) (m_join (by rfl)) PySem.F.plainAttrs_str PySem.F.slot_str_join PySem.F.type_str_join ?_ (by rfl) ?_ (by rfl) (by rfl) (by rfl) (by rfl) (by rfl)
    · refine e_str (by decide +kernel)
    refine a_cons' (o := .bw) (ta := .fr (.lst .fz)) ?_ ?_ (by rfl) (by rfl)
    · refine e_lc' (ety := .vw .fz) (gm := .fz) (own := [("d", 7)]) (t := (.nm 7)) (tst := none) (by rfl) nd_law_word ?_ (blkOk_by (own := [("d", 7)]) (by kernel_rfl)) ?_ ?_ ?_ (by rfl) (by decide) (by intro _; rfl) (by rfl)
      · refine i_val' (o := .fz) (by rfl) ?_ (by rfl) (by rfl)
        refine s_sl' (o := .fz) (pl := (some (.vw .fz, (fC (.int 4))))) (pu := (some (.vw .fz, (fBin addD (fC (.int 4)) (evVar 3))))) (by rfl) (by rfl) ?_ ?_ ?_ (by rfl) (fun _ h => by cases h; rfl) (fun _ h => by cases h; rfl)
        · refine e_var (i := 0) (k := .ve .fz) nm_law_word_0 (by rfl)
        · refine PO_of ?_
          exact e_int
        refine PO_of ?_
        refine s_bin' (ta := .vw .fz) (tb := .vw .fz) o_add ?_ ?_ (by rfl) (by rfl)
        · exact e_int
        refine e_var (i := 3) (k := .ve .fz) nm_law_word_3 (by rfl)
      · intro _ _ _ _ _
        refine e_nm (i := 7) (lo_by (by kernel_rfl)) (by rfl) (.inr (by kernel_rfl))
      · intro _ _ _ _ _
        exact p_nil
      intro _ _ _ _ _
      refine s_ix' (o := .fz) (tb := .vw .fz) ?_ ?_ (by rfl) (by intro _ _; rfl) (by intro _ _; rfl) hu1 (by rfl) (by rfl)
      · refine e_var (i := 1) (k := .ve .fz) (nm_by (by kernel_rfl)) (by rfl)
      refine s_bin' (ta := .vw .fz) (tb := .vw .fz) o_mod ?_ ?_ (by rfl) (by rfl)
      · refine e_ty ⟨gl_by (by kernel_rfl), T.b_int⟩ (b_int) ?_ (by rfl) (by decide +kernel) (by decide +kernel) (by rfl) (by rfl)
        refine a_cons' (o := .bw) (ta := .vw .fz) ?_ ?_ (by rfl) (by rfl)
        · refine e_var (i := 7) (k := .ve .fz) (nm_by (by kernel_rfl)) (by rfl)
        exact a_nil'
      exact e_int
    exact a_nil'
  refine ss_cons' ?_ ?_
  · refine st_if' ?_ ?_ ?_
    · refine t_cmp' (ta := .vw .fz) (tb := .vw .fz) (o_eq hu64 (by rfl)) ?_ ?_ (by rfl) (by rfl) (by rfl)
      · refine e_var (i := 4) (k := .ve .fz) nm_law_word_4 (by rfl)
      exact e_int
    · refine ss_cons' ?_ ?_
      · refine e_set' (ta := .vw .fz) (i := 5) lo_law_word_5 (by rfl) ?_ (by rfl) (by exact .inl rfl) (by rfl)
        refine s_m' (T := "str") (ta := .vw .fz) (by rfl) (m_join (by rfl)) PySem.F.plainAttrs_str PySem.F.slot_str_join PySem.F.type_str_join ?_ (by rfl) ?_ (by rfl) (by rfl) (by rfl) (by rfl) (by rfl)
        · refine e_str (by decide +kernel)
        refine a_cons' (o := .bw) (ta := .fr (.lst .fz)) ?_ ?_ (by rfl) (by rfl)
        · refine e_lc' (ety := .vw .fz) (gm := .fz) (own := [("d", 7)]) (t := (.nm 7)) (tst := none) (by rfl) nd_law_word ?_ (blkOk_by (own := [("d", 7)]) (by kernel_rfl)) ?_ ?_ ?_ (by rfl) (by decide) (by intro _; rfl) (by rfl)
          · refine i_val' (o := .fz) (by rfl) ?_ (by rfl) (by rfl)
            refine s_sl' (o := .fz) (pl := (some (.vw .fz, (fC (.int 4))))) (pu := (some (.vw .fz, (fBin addD (fC (.int 4)) (evVar 3))))) (by rfl) (by rfl) ?_ ?_ ?_ (by rfl) (fun _ h => by cases h; rfl) (fun _ h => by cases h; rfl)
            · refine e_var (i := 0) (k := .ve .fz) nm_law_word_0 (by rfl)
            · refine PO_of ?_
              exact e_int
            refine PO_of ?_
            refine s_bin' (ta := .vw .fz) (tb := .vw .fz) o_add ?_ ?_ (by rfl) (by rfl)
            · exact e_int
            refine e_var (i := 3) (k := .ve .fz) nm_law_word_3 (by rfl)
          · intro _ _ _ _ _
            refine e_nm (i := 7) (lo_by (by kernel_rfl)) (by rfl) (.inr (by kernel_rfl))
          · intro _ _ _ _ _
            exact p_nil
          intro _ _ _ _ _
          refine s_ix' (o := .fz) (tb := .vw .fz) ?_ ?_ (by rfl) (by intro _ _; rfl) (by intro _ _; rfl) hu1 (by rfl) (by rfl)
          · refine e_var (i := 2) (k := .ve .fz) (nm_by (by kernel_rfl)) (by rfl)
          refine s_bin' (ta := .vw .fz) (tb := .vw .fz) o_mod ?_ ?_ (by rfl) (by rfl)
          · refine e_ty ⟨gl_by (by kernel_rfl), T.b_int⟩ (b_int) ?_ (by rfl) (by decide +kernel) (by decide +kernel) (by rfl) (by rfl)
            refine a_cons' (o := .bw) (ta := .vw .fz) ?_ ?_ (by rfl) (by rfl)
            · refine e_var (i := 7) (k := .ve .fz) (nm_by (by kernel_rfl)) (by rfl)
            exact a_nil'
          refine e_bi ⟨gl_by (by kernel_rfl), T.b_len⟩ (b_len (by rfl)) ?_ (by rfl) (by decide +kernel) (by decide +kernel) (by rfl) (by rfl)
          refine a_cons' (o := .bw) (ta := .vw .fz) ?_ ?_ (by rfl) (by rfl)
          · refine e_var (i := 2) (k := .ve .fz) (nm_by (by kernel_rfl)) (by rfl)
          exact a_nil'
        exact a_nil'
      exact ss_nil'
    exact ss_nil'
  refine ss_cons' ?_ ?_
  · refine st_if' ?_ ?_ ?_
    · refine t_cmp' (ta := .vw .fz) (tb := .vw .fz) (o_eq hu64 (by rfl)) ?_ ?_ (by rfl) (by rfl) (by rfl)
      · refine e_var (i := 4) (k := .ve .fz) nm_law_word_4 (by rfl)
      exact e_int
    · refine ss_cons' ?_ ?_
      · refine e_set' (ta := .vw .fz) (i := 6) lo_law_word_6 (by rfl) ?_ (by rfl) (by exact .inl rfl) (by rfl)
        refine s_bin' (ta := .vw .fz) (tb := .vw .fz) o_mod ?_ ?_ (by rfl) (by rfl)
        · refine e_ty ⟨gl_by (by kernel_rfl), T.b_int⟩ (b_int) ?_ (by rfl) (by decide +kernel) (by decide +kernel) (by rfl) (by rfl)
          refine a_cons' (o := .bw) (ta := .vw .fz) ?_ ?_ (by rfl) (by rfl)
          · refine s_ix' (o := .fz) (tb := .vw .fz) ?_ ?_ (by rfl) (by intro _ _; rfl) (by intro _ _; rfl) hu1 (by rfl) (by rfl)
            · refine e_var (i := 0) (k := .ve .fz) nm_law_word_0 (by rfl)
            exact e_int
          exact a_nil'
        refine s_bin' (ta := .vw .fz) (tb := .vw .fz) o_add ?_ ?_ (by rfl) (by rfl)
        · refine e_var (i := 3) (k := .ve .fz) nm_law_word_3 (by rfl)
        exact e_int
      refine ss_cons' ?_ ?_
      · refine e_set' (ta := .vw .fz) (i := 5) lo_law_word_5 (by rfl) ?_ (by rfl) (by exact .inl rfl) (by rfl)
        refine s_bin' (ta := .vw .fz) (tb := .vw .fz) o_add ?_ ?_ (by rfl) (by rfl)
        · refine s_bin' (ta := .vw .fz) (tb := .vw .fz) o_add ?_ ?_ (by rfl) (by rfl)
          · refine s_sl' (o := .fz) (pl := none) (pu := (some (.vw .fz, (evVar 6)))) (by rfl) (by rfl) ?_ ?_ ?_ (by rfl) (fun _ h => nomatch h) (fun _ h => by cases h; rfl)
            · refine e_var (i := 5) (k := .ve .fz) nm_law_word_5 (by rfl)
            · refine PO_of (by trivial)
            refine PO_of ?_
            refine e_var (i := 6) (k := .ve .fz) nm_law_word_6 (by rfl)
          refine s_ix' (o := .fz) (tb := .vw .fz) ?_ ?_ (by rfl) (by intro _ _; rfl) (by intro _ _; rfl) hu1 (by rfl) (by rfl)
          · refine e_var (i := 2) (k := .ve .fz) nm_law_word_2 (by rfl)
          refine s_bin' (ta := .vw .fz) (tb := .vw .fz) o_mod ?_ ?_ (by rfl) (by rfl)
          · refine e_ty ⟨gl_by (by kernel_rfl), T.b_int⟩ (b_int) ?_ (by rfl) (by decide +kernel) (by decide +kernel) (by rfl) (by rfl)
            refine a_cons' (o := .bw) (ta := .vw .fz) ?_ ?_ (by rfl) (by rfl)
            · refine s_ix' (o := .fz) (tb := .vw .fz) ?_ ?_ (by rfl) (by intro _ _; rfl) (by intro _ _; rfl) hu1 (by rfl) (by rfl)
              · refine e_var (i := 0) (k := .ve .fz) nm_law_word_0 (by rfl)
              exact e_int
            exact a_nil'
          refine e_bi ⟨gl_by (by kernel_rfl), T.b_len⟩ (b_len (by rfl)) ?_ (by rfl) (by decide +kernel) (by decide +kernel) (by rfl) (by rfl)
          refine a_cons' (o := .bw) (ta := .vw .fz) ?_ ?_ (by rfl) (by rfl)
          · refine e_var (i := 2) (k := .ve .fz) nm_law_word_2 (by rfl)
          exact a_nil'
        refine s_sl' (o := .fz) (pl := (some (.vw .fz, (evVar 6)))) (pu := none) (by rfl) (by rfl) ?_ ?_ ?_ (by rfl) (fun _ h => by cases h; rfl) (fun _ h => nomatch h)
        · refine e_var (i := 5) (k := .ve .fz) nm_law_word_5 (by rfl)
        · refine PO_of ?_
          refine e_var (i := 6) (k := .ve .fz) nm_law_word_6 (by rfl)
        refine PO_of (by trivial)
      exact ss_nil'
    exact ss_nil'
  refine ss_cons' ?_ ?_
  · refine st_ret' (ta := .vw .fz) ?_ (by rfl)
    refine e_var (i := 5) (k := .ve .fz) nm_law_word_5 (by rfl)
  exact ss_nil'
theorem ok_law_word {P : Program} {w : World} {K : PySem.W.Frag} {mg : Str → Option Value} {base : Heap} {f : Addr} {fd : FuncData} (T : Fx K mg) (D : FunD K "_law_word" "_law_word" (defArgs (top 7)) (defBody (top 7)) (defScope (top 7)) [] [] f fd) (hm : mg "_law_word" = some (.ref f)) : Cal P w K mg base "_law_word" 1 sg_law_word φ_law_word :=
  ⟨⟨f, fd, ["draws"], def_ok D sc_law_word rfl rfl (by decide) rfl (body_law_word T), hm, D.kp, D.bindsN fun _ _ _ _ _ _ us hl => match us, hl with | [_], _ => rfl⟩⟩
abbrev S_law_due : Scope := defScope (top 8)
abbrev N_law_due : List Str := ["word", "letters", "sign"]
abbrev K_law_due : List Kd := [.ve .fz, .ve .fz, .ve .fz]
theorem sc_law_due : FnScope N_law_due ["word"] S_law_due := ⟨rfl, rfl, rfl, by decide +kernel, rfl, by decide +kernel, by decide +kernel⟩
theorem nd_law_due : N_law_due.Nodup := sc_law_due.nd
theorem nm_law_due_0 : Nm N_law_due S_law_due 0 "word" := nm_by (by kernel_rfl)
theorem lo_law_due_0 : Lo N_law_due S_law_due 0 "word" := lo_by (by kernel_rfl)
theorem nm_law_due_1 : Nm N_law_due S_law_due 1 "letters" := nm_by (by kernel_rfl)
theorem lo_law_due_1 : Lo N_law_due S_law_due 1 "letters" := lo_by (by kernel_rfl)
def g_law_due : So := (sSeq (sSet 1 (fC (.str "abcdefghijklmnopqrstuvwxyz")))
  (sSeq (sRet (fAnd (fChain (op pLt) (op pLt) (fC (.int 0)) (fBi lenD (lCons (evVar 0) lNil)) (fC (.int 9))) (fCmp (eqD) (fBi lenD (lCons (lcF (.nm 2) (some (fCmp (inN false) (evVar 2) (evVar 1))) (evVar 2) (iVal (evVar 0)) [2]) lNil)) (fBi lenD (lCons (evVar 0) lNil)))))
  sNx))
abbrev sg_law_due : Sig := ⟨[.fz], .vw .fz⟩
def φ_law_due : Fn := defF (.vw .fz) 3 g_law_due
theorem body_law_due {P : Program} {w : World} {K : PySem.W.Frag} {mg : Str → Option Value} {base : Heap} {f : Addr} (T : Fx K mg) : BodyOk P w K mg base N_law_due "_law_due" S_law_due f 0 K_law_due (.vw .fz) (defBody (top 8)) g_law_due := by
  intro cdv A outer s H E c hr hK hKs tk
  obtain ⟨K', Ks', F0, G, W⟩ := c
  cases hK
  cases hKs
  have hun := hr.un
  have hu1 : (A.deeper (envOfC "_law_due" S_law_due s.heap.objs.size f cdv)).units + 1 < cLine := by omega
  have hu64 : (A.deeper (envOfC "_law_due" S_law_due s.heap.objs.size f cdv)).units + 64 < cLine := by omega
  have hu65 : (A.deeper (envOfC "_law_due" S_law_due s.heap.objs.size f cdv)).units + 65 < cLine := by omega
  refine ss_cons' ?_ ?_
  · refine e_set' (ta := .vw .fz) (i := 1) lo_law_due_1 (by rfl) ?_ (by rfl) (by exact .inl rfl) (by rfl)
    refine e_str (by decide +kernel)
  refine ss_cons' ?_ ?_
  · refine st_ret' (ta := .vw .fz) ?_ (by rfl)
    refine s_and' (ta := .vw .fz) ?_ (by rfl) ?_
    · refine s_chainV' (ta := .vw .fz) (tb := .vw .fz) (tc := .vw .fz) (o_cmpI op_lt) (o_cmpI op_lt) ?_ ?_ ?_ (by rfl) (by rfl) (by rfl) (by rfl)
      · exact e_int
      · refine e_bi ⟨gl_by (by kernel_rfl), T.b_len⟩ (b_len (by rfl)) ?_ (by rfl) (by decide +kernel) (by decide +kernel) (by rfl) (by rfl)
        refine a_cons' (o := .bw) (ta := .vw .fz) ?_ ?_ (by rfl) (by rfl)
        · refine e_var (i := 0) (k := .ve .fz) nm_law_due_0 (by rfl)
        exact a_nil'
      exact e_int
    refine s_one ?_
    refine s_cmp' (ta := .vw .fz) (tb := .vw .fz) (o_eq hu64 (by rfl)) ?_ ?_ (by rfl) (by rfl) (by rfl)
    · refine e_bi ⟨gl_by (by kernel_rfl), T.b_len⟩ (b_len (by rfl)) ?_ (by rfl) (by decide +kernel) (by decide +kernel) (by rfl) (by rfl)
      refine a_cons' (o := .bw) (ta := .fr (.lst .fz)) ?_ ?_ (by rfl) (by rfl)
      · refine e_lc' (ety := .vw .fz) (gm := .fz) (own := [("sign", 2)]) (t := (.nm 2)) (tst := (some (fCmp (inN false) (evVar 2) (evVar 1)))) (by rfl) nd_law_due ?_ (blkOk_by (own := [("sign", 2)]) (by kernel_rfl)) ?_ ?_ ?_ (by rfl) (by decide) (by intro _; rfl) (by rfl)
        · refine i_val' (o := .fz) (by rfl) ?_ (by rfl) (by rfl)
          refine e_var (i := 0) (k := .ve .fz) nm_law_due_0 (by rfl)
        · intro _ _ _ _ _
          refine e_nm (i := 2) (lo_by (by kernel_rfl)) (by rfl) (.inr (by kernel_rfl))
        · intro _ _ _ _ _
          refine p_one ?_
          refine t_in' (neg := false) (ta := .vw .fz) (tb := .vw .fz) (by rfl) hu65 (by rfl) ?_ ?_ (by rfl) (by rfl) (by rfl)
          · refine e_var (i := 2) (k := .ve .fz) (nm_by (by kernel_rfl)) (by rfl)
          refine e_var (i := 1) (k := .ve .fz) (nm_by (by kernel_rfl)) (by rfl)
        intro _ _ _ _ _
        refine e_var (i := 2) (k := .ve .fz) (nm_by (by kernel_rfl)) (by rfl)
      exact a_nil'
    refine e_bi ⟨gl_by (by kernel_rfl), T.b_len⟩ (b_len (by rfl)) ?_ (by rfl) (by decide +kernel) (by decide +kernel) (by rfl) (by rfl)
    refine a_cons' (o := .bw) (ta := .vw .fz) ?_ ?_ (by rfl) (by rfl)
    · refine e_var (i := 0) (k := .ve .fz) nm_law_due_0 (by rfl)
    exact a_nil'
  exact ss_nil'
theorem ok_law_due {P : Program} {w : World} {K : PySem.W.Frag} {mg : Str → Option Value} {base : Heap} {f : Addr} {fd : FuncData} (T : Fx K mg) (D : FunD K "_law_due" "_law_due" (defArgs (top 8)) (defBody (top 8)) (defScope (top 8)) [] [] f fd) (hm : mg "_law_due" = some (.ref f)) : Cal P w K mg base "_law_due" 1 sg_law_due φ_law_due :=
  ⟨⟨f, fd, ["word"], def_ok D sc_law_due rfl rfl (by decide) rfl (body_law_due T), hm, D.kp, D.bindsN fun _ _ _ _ _ _ us hl => match us, hl with | [_], _ => rfl⟩⟩
abbrev S_law : Scope := defScope (top 9)
abbrev N_law : List Str := ["script", "letter", "words", "at", "word", "bounds", "told", "due"]
abbrev K_law : List Kd := [.ve .fz, .ve .fz, .ow (.lst .fz), .ve .fz, .ve .fz, .ve .fz, .ve .fz, .ve .fz]
theorem sc_law : FnScope N_law ["script"] S_law := ⟨rfl, rfl, rfl, by decide +kernel, rfl, by decide +kernel, by decide +kernel⟩
theorem nd_law : N_law.Nodup := sc_law.nd
theorem nm_law_0 : Nm N_law S_law 0 "script" := nm_by (by kernel_rfl)
theorem lo_law_0 : Lo N_law S_law 0 "script" := lo_by (by kernel_rfl)
theorem nm_law_1 : Nm N_law S_law 1 "letter" := nm_by (by kernel_rfl)
theorem lo_law_1 : Lo N_law S_law 1 "letter" := lo_by (by kernel_rfl)
theorem nm_law_2 : Nm N_law S_law 2 "words" := nm_by (by kernel_rfl)
theorem lo_law_2 : Lo N_law S_law 2 "words" := lo_by (by kernel_rfl)
theorem nm_law_3 : Nm N_law S_law 3 "at" := nm_by (by kernel_rfl)
theorem lo_law_3 : Lo N_law S_law 3 "at" := lo_by (by kernel_rfl)
theorem nm_law_4 : Nm N_law S_law 4 "word" := nm_by (by kernel_rfl)
theorem lo_law_4 : Lo N_law S_law 4 "word" := lo_by (by kernel_rfl)
theorem nm_law_5 : Nm N_law S_law 5 "bounds" := nm_by (by kernel_rfl)
theorem lo_law_5 : Lo N_law S_law 5 "bounds" := lo_by (by kernel_rfl)
theorem nm_law_6 : Nm N_law S_law 6 "told" := nm_by (by kernel_rfl)
theorem lo_law_6 : Lo N_law S_law 6 "told" := lo_by (by kernel_rfl)
theorem nm_law_7 : Nm N_law S_law 7 "due" := nm_by (by kernel_rfl)
theorem lo_law_7 : Lo N_law S_law 7 "due" := lo_by (by kernel_rfl)
def g_law : So := (sSeq (sSet 1 (fIx (fC (.str "abcdefghijklmnopqrstuvwxyz")) (fBin modD (fBi intD (lCons (fIx (fCall φ_law_numbers (lCons (evVar 0) (lCons (fC (.int 0)) (lCons (fC (.int 1)) lNil)))) (fC (.int 0))) lNil)) (fC (.int 26)))))
  (sSeq (sSet 2 (fLst (lCons (fC (.str "")) (lCons (evVar 1) (lCons (fBin mulD (evVar 1) (fC (.int 8))) (lCons (fBin mulD (evVar 1) (fC (.int 9))) lNil))))))
  (sSeq (sFor (.nm 3) (iRng1 (fC (.int 20))) (sSeq (sApp 2 (fCall φ_law_word (lCons (fCall φ_law_numbers (lCons (evVar 0) (lCons (evVar 3) (lCons (fC (.int 14)) lNil)))) lNil)))
  sNx))
  (sFrz 2 (sSeq (sFor (.nm 4) (iVal (evVar 2)) (sSeq (sIf (fNot (fCall φ_law_leaf (lCons (fCall φ_is_name (lCons (evVar 4) lNil)) (lCons (fCall φ_law_due (lCons (evVar 4) lNil)) lNil)))) (sSeq (sRet (fC (.bl false)))
  sNx) sNx)
  sNx))
  (sSeq (sSet 5 (fLst (lCons (fC (.int 5)) (lCons (fC (.int 4)) (lCons (fC (.int 5)) (lCons (fC (.int 10)) (lCons (fC (.int 60)) (lCons (fC (.int 8)) lNil))))))))
  (sSeq (sFor (.tp [(.nm 6), (.nm 7)]) (iZip (lCons (evVar 5) (lCons (fLst (lCons (fC (.int 5)) (lCons (fC (.int 4)) (lCons (fC (.int 5)) (lCons (fC (.int 10)) (lCons (fC (.int 60)) (lCons (fC (.int 8)) lNil))))))) lNil))) (sSeq (sIf (fNot (fCall φ_law_leaf (lCons (evVar 6) (lCons (evVar 7) lNil)))) (sSeq (sRet (fC (.bl false)))
  sNx) sNx)
  sNx))
  (sSeq (sRet (fC (.bl true)))
  sNx))))))))
abbrev sg_law : Sig := ⟨[.fz], .vw .fz⟩
def φ_law : Fn := defF (.vw .fz) 8 g_law
theorem body_law {P : Program} {w : World} {K : PySem.W.Frag} {mg : Str → Option Value} {base : Heap} {f : Addr} (T : Fx K mg) (C__law_numbers : Cal P w K mg base "_law_numbers" 1 sg_law_numbers φ_law_numbers) (C__law_word : Cal P w K mg base "_law_word" 1 sg_law_word φ_law_word) (C_is_name : Cal P w K mg base "is_name" 1 sg_is_name φ_is_name) (C__law_due : Cal P w K mg base "_law_due" 1 sg_law_due φ_law_due) (C__law_leaf : Cal P w K mg base "_law_leaf" 1 sg_law_leaf φ_law_leaf) : BodyOk P w K mg base N_law "law" S_law f 1 K_law (.vw .fz) (defBody (top 9)) g_law := by
  intro cdv A outer s H E c hr hK hKs tk
  obtain ⟨K', Ks', F0, G, W⟩ := c
  cases hK
  cases hKs
  have hun := hr.un
  have hu1 : (A.deeper (envOfC "law" S_law s.heap.objs.size f cdv)).units + 1 < cLine := by omega
  have hu64 : (A.deeper (envOfC "law" S_law s.heap.objs.size f cdv)).units + 64 < cLine := by omega
  have hu65 : (A.deeper (envOfC "law" S_law s.heap.objs.size f cdv)).units + 65 < cLine := by omega
  refine ss_cons' ?_ ?_
  · refine e_set' (ta := .vw .fz) (i := 1) lo_law_1 (by rfl) ?_ (by rfl) (by exact .inl rfl) (by rfl)
    refine s_ix' (o := .fz) (tb := .vw .fz) ?_ ?_ (by rfl) (by intro _ _; rfl) (by intro _ _; rfl) hu1 (by rfl) (by rfl)
    · refine e_str (by decide +kernel)
    refine s_bin' (ta := .vw .fz) (tb := .vw .fz) o_mod ?_ ?_ (by rfl) (by rfl)
    · refine e_ty ⟨gl_by (by kernel_rfl), T.b_int⟩ (b_int) ?_ (by rfl) (by decide +kernel) (by decide +kernel) (by rfl) (by rfl)
      refine a_cons' (o := .bw) (ta := .vw .fz) ?_ ?_ (by rfl) (by rfl)
      · refine s_ix' (o := .fz) (tb := .vw .fz) ?_ ?_ (by rfl) (by intro _ _; rfl) (by intro _ _; rfl) hu1 (by rfl) (by rfl)
        · refine s_fz (ta := .fr (.lst .fz)) ?_ (by rfl)
          refine e_call' C__law_numbers hr (by decide) (by rfl) (gl_by (by kernel_rfl)) tk ?_ (by decide +kernel) (by rfl) (by rfl) (by rfl)
          refine a_cons' (o := .fz) (ta := .vw .fz) ?_ ?_ (by rfl) (by rfl)
          · refine e_var (i := 0) (k := .ve .fz) nm_law_0 (by rfl)
          refine a_cons' (o := .fz) (ta := .vw .fz) ?_ ?_ (by rfl) (by rfl)
          · exact e_int
          refine a_cons' (o := .fz) (ta := .vw .fz) ?_ ?_ (by rfl) (by rfl)
          · exact e_int
          exact a_nil'
        exact e_int
      exact a_nil'
    exact e_int
  refine ss_cons' ?_ ?_
  · refine e_own' (i := 2) lo_law_2 (by rfl) ?_ (by exact .inl rfl) (by rfl)
    refine s_lst' (os := [.fz, .fz, .fz, .fz]) ?_ (by simp) (by decide)
    refine a_cons' (o := .fz) (ta := .vw .fz) ?_ ?_ (by rfl) (by rfl)
    · refine e_str (by decide +kernel)
    refine a_cons' (o := .fz) (ta := .vw .fz) ?_ ?_ (by rfl) (by rfl)
    · refine e_var (i := 1) (k := .ve .fz) nm_law_1 (by rfl)
    refine a_cons' (o := .fz) (ta := .vw .fz) ?_ ?_ (by rfl) (by rfl)
    · refine s_bin' (ta := .vw .fz) (tb := .vw .fz) o_mul ?_ ?_ (by rfl) (by rfl)
      · refine e_var (i := 1) (k := .ve .fz) nm_law_1 (by rfl)
      exact e_int
    refine a_cons' (o := .fz) (ta := .vw .fz) ?_ ?_ (by rfl) (by rfl)
    · refine s_bin' (ta := .vw .fz) (tb := .vw .fz) o_mul ?_ ?_ (by rfl) (by rfl)
      · refine e_var (i := 1) (k := .ve .fz) nm_law_1 (by rfl)
      exact e_int
    exact a_nil'
  refine ss_cons' ?_ ?_
  · refine st_for' (gm := .fz) (t := (.nm 3)) (by exact passes_of rfl) (by rfl) ?_ ?_ ?_ (by nofun) (by intro _; rfl)
    · refine i_rng1' (ta := .vw .fz) ?_ (by rfl) (gl_by (by kernel_rfl)) T.b_range (by rfl)
      exact e_int
    · refine e_nm (i := 3) lo_law_3 (by rfl) (by exact .inl rfl)
    refine ss_cons' ?_ ?_
    · refine st_append' (ta := .vw .fz) (i := 2) (by rfl) nm_law_2 (by rfl) ?_ (by rfl) (by rfl) (by rfl) (by rfl) (by rfl) (by rfl) (by rfl)
      refine e_call' C__law_word hr (by decide) (by rfl) (gl_by (by kernel_rfl)) tk ?_ (by decide +kernel) (by rfl) (by rfl) (by rfl)
      refine a_cons' (o := .fz) (ta := .fr (.lst .fz)) ?_ ?_ (by rfl) (by rfl)
      · refine e_call' C__law_numbers hr (by decide) (by rfl) (gl_by (by kernel_rfl)) tk ?_ (by decide +kernel) (by rfl) (by rfl) (by rfl)
        refine a_cons' (o := .fz) (ta := .vw .fz) ?_ ?_ (by rfl) (by rfl)
        · refine e_var (i := 0) (k := .ve .fz) nm_law_0 (by rfl)
        refine a_cons' (o := .fz) (ta := .vw .fz) ?_ ?_ (by rfl) (by rfl)
        · refine e_var (i := 3) (k := .ve .fz) nm_law_3 (by rfl)
        refine a_cons' (o := .fz) (ta := .vw .fz) ?_ ?_ (by rfl) (by rfl)
        · exact e_int
        exact a_nil'
      exact a_nil'
    exact ss_nil'
  refine ss_frz' (i := 2) (by rfl) ?_
  refine ss_cons' ?_ ?_
  · refine st_for' (gm := .fz) (t := (.nm 4)) (by exact passes_of rfl) (by rfl) ?_ ?_ ?_ (by nofun) (by intro _; rfl)
    · refine i_val' (o := .fz) (by rfl) ?_ (by rfl) (by rfl)
      refine e_var (i := 2) (k := .ve .fz) nm_law_2 (by rfl)
    · refine e_nm (i := 4) lo_law_4 (by rfl) (by exact .inl rfl)
    refine ss_cons' ?_ ?_
    · refine st_if' ?_ ?_ ?_
      · refine t_not' ?_
        refine t_val (ta := .vw .fz) ?_ (by intro _; rfl) (by rfl)
        refine e_call' C__law_leaf hr (by decide) (by rfl) (gl_by (by kernel_rfl)) tk ?_ (by decide +kernel) (by rfl) (by rfl) (by rfl)
        refine a_cons' (o := .fz) (ta := .vw .fz) ?_ ?_ (by rfl) (by rfl)
        · refine e_call' C_is_name hr (by decide) (by rfl) (gl_by (by kernel_rfl)) tk ?_ (by decide +kernel) (by rfl) (by rfl) (by rfl)
          refine a_cons' (o := .fz) (ta := .vw .fz) ?_ ?_ (by rfl) (by rfl)
          · refine e_var (i := 4) (k := .ve .fz) nm_law_4 (by rfl)
          exact a_nil'
        refine a_cons' (o := .fz) (ta := .vw .fz) ?_ ?_ (by rfl) (by rfl)
        · refine e_call' C__law_due hr (by decide) (by rfl) (gl_by (by kernel_rfl)) tk ?_ (by decide +kernel) (by rfl) (by rfl) (by rfl)
          refine a_cons' (o := .fz) (ta := .vw .fz) ?_ ?_ (by rfl) (by rfl)
          · refine e_var (i := 4) (k := .ve .fz) nm_law_4 (by rfl)
          exact a_nil'
        exact a_nil'
      · refine ss_cons' ?_ ?_
        · refine st_ret' (ta := .vw .fz) ?_ (by rfl)
          exact e_bl
        exact ss_nil'
      exact ss_nil'
    exact ss_nil'
  refine ss_cons' ?_ ?_
  · refine e_set' (ta := .vw .fz) (i := 5) lo_law_5 (by rfl) ?_ (by rfl) (by exact .inl rfl) (by rfl)
    refine s_fz (ta := .fr (.lst .fz)) ?_ (by rfl)
    refine s_lst' (os := [.fz, .fz, .fz, .fz, .fz, .fz]) ?_ (by simp) (by decide)
    refine a_cons' (o := .fz) (ta := .vw .fz) ?_ ?_ (by rfl) (by rfl)
    · refine s_cval (gl_by (by kernel_rfl)) T.g_Bounds T.c_Bounds_LOCKS (by decide +kernel) (by rfl)
    refine a_cons' (o := .fz) (ta := .vw .fz) ?_ ?_ (by rfl) (by rfl)
    · refine s_cval (gl_by (by kernel_rfl)) T.g_Bounds T.c_Bounds_HOOKS (by decide +kernel) (by rfl)
    refine a_cons' (o := .fz) (ta := .vw .fz) ?_ ?_ (by rfl) (by rfl)
    · refine s_cval (gl_by (by kernel_rfl)) T.g_Bounds T.c_Bounds_ROUTINES (by decide +kernel) (by rfl)
    refine a_cons' (o := .fz) (ta := .vw .fz) ?_ ?_ (by rfl) (by rfl)
    · refine s_cval (gl_by (by kernel_rfl)) T.g_Bounds T.c_Bounds_STATEMENTS (by decide +kernel) (by rfl)
    refine a_cons' (o := .fz) (ta := .vw .fz) ?_ ?_ (by rfl) (by rfl)
    · refine s_cval (gl_by (by kernel_rfl)) T.g_Bounds T.c_Bounds_LENGTH (by decide +kernel) (by rfl)
    refine a_cons' (o := .fz) (ta := .vw .fz) ?_ ?_ (by rfl) (by rfl)
    · refine s_cval (gl_by (by kernel_rfl)) T.g_Bounds T.c_Bounds_LETTERS (by decide +kernel) (by rfl)
    exact a_nil'
  refine ss_cons' ?_ ?_
  · refine st_for' (gm := .fz) (t := (.tp [(.nm 6), (.nm 7)])) (by exact passes_of rfl) (by rfl) ?_ ?_ ?_ (by nofun) (by intro _; rfl)
    · refine i_zip' (by rfl) (gl_by (by kernel_rfl)) T.b_zip ?_ (by rfl) (by rfl)
      refine a_cons' (o := .fz) (ta := .vw .fz) ?_ ?_ (by rfl) (by rfl)
      · refine e_var (i := 5) (k := .ve .fz) nm_law_5 (by rfl)
      refine a_cons' (o := .fz) (ta := .fr (.lst .fz)) ?_ ?_ (by rfl) (by rfl)
      · refine s_lst' (os := [.fz, .fz, .fz, .fz, .fz, .fz]) ?_ (by simp) (by decide)
        refine a_cons' (o := .fz) (ta := .vw .fz) ?_ ?_ (by rfl) (by rfl)
        · exact e_int
        refine a_cons' (o := .fz) (ta := .vw .fz) ?_ ?_ (by rfl) (by rfl)
        · exact e_int
        refine a_cons' (o := .fz) (ta := .vw .fz) ?_ ?_ (by rfl) (by rfl)
        · exact e_int
        refine a_cons' (o := .fz) (ta := .vw .fz) ?_ ?_ (by rfl) (by rfl)
        · exact e_int
        refine a_cons' (o := .fz) (ta := .vw .fz) ?_ ?_ (by rfl) (by rfl)
        · exact e_int
        refine a_cons' (o := .fz) (ta := .vw .fz) ?_ ?_ (by rfl) (by rfl)
        · exact e_int
        exact a_nil'
      exact a_nil'
    · refine g_tp (by rfl) (by rfl) ?_ (by rfl) (by rfl)
      refine gs_cons ?_ ?_ (by rfl)
      · refine e_nm (i := 6) lo_law_6 (by rfl) (by exact .inl rfl)
      refine gs_cons ?_ ?_ (by rfl)
      · refine e_nm (i := 7) lo_law_7 (by rfl) (by exact .inl rfl)
      exact gs_nil
    refine ss_cons' ?_ ?_
    · refine st_if' ?_ ?_ ?_
      · refine t_not' ?_
        refine t_val (ta := .vw .fz) ?_ (by intro _; rfl) (by rfl)
        refine e_call' C__law_leaf hr (by decide) (by rfl) (gl_by (by kernel_rfl)) tk ?_ (by decide +kernel) (by rfl) (by rfl) (by rfl)
        refine a_cons' (o := .fz) (ta := .vw .fz) ?_ ?_ (by rfl) (by rfl)
        · refine e_var (i := 6) (k := .ve .fz) nm_law_6 (by rfl)
        refine a_cons' (o := .fz) (ta := .vw .fz) ?_ ?_ (by rfl) (by rfl)
        · refine e_var (i := 7) (k := .ve .fz) nm_law_7 (by rfl)
        exact a_nil'
      · refine ss_cons' ?_ ?_
        · refine st_ret' (ta := .vw .fz) ?_ (by rfl)
          exact e_bl
        exact ss_nil'
      exact ss_nil'
    exact ss_nil'
  refine ss_cons' ?_ ?_
  · refine st_ret' (ta := .vw .fz) ?_ (by rfl)
    exact e_bl
  exact ss_nil'
theorem ok_law {P : Program} {w : World} {K : PySem.W.Frag} {mg : Str → Option Value} {base : Heap} {f : Addr} {fd : FuncData} (T : Fx K mg) (C__law_numbers : Cal P w K mg base "_law_numbers" 1 sg_law_numbers φ_law_numbers) (C__law_word : Cal P w K mg base "_law_word" 1 sg_law_word φ_law_word) (C_is_name : Cal P w K mg base "is_name" 1 sg_is_name φ_is_name) (C__law_due : Cal P w K mg base "_law_due" 1 sg_law_due φ_law_due) (C__law_leaf : Cal P w K mg base "_law_leaf" 1 sg_law_leaf φ_law_leaf) (D : FunD K "law" "law" (defArgs (top 9)) (defBody (top 9)) (defScope (top 9)) [] [] f fd) (hm : mg "law" = some (.ref f)) : Cal P w K mg base "law" 2 sg_law φ_law :=
  ⟨⟨f, fd, ["script"], def_ok D sc_law rfl rfl (by decide) rfl (body_law T C__law_numbers C__law_word C_is_name C__law_due C__law_leaf), hm, D.kp, D.bindsN fun _ _ _ _ _ _ us hl => match us, hl with | [_], _ => rfl⟩⟩

def d_is_name : He.DefD := ⟨("is_name", none), "is_name", "is_name", defArgs (top 3), defBody (top 3), defScope (top 3), [], []⟩
def d_law_numbers : He.DefD := ⟨("_law_numbers", none), "_law_numbers", "_law_numbers", defArgs (top 5), defBody (top 5), defScope (top 5), [], []⟩
def d_law_leaf : He.DefD := ⟨("_law_leaf", none), "_law_leaf", "_law_leaf", defArgs (top 6), defBody (top 6), defScope (top 6), [], []⟩
def d_law_word : He.DefD := ⟨("_law_word", none), "_law_word", "_law_word", defArgs (top 7), defBody (top 7), defScope (top 7), [], []⟩
def d_law_due : He.DefD := ⟨("_law_due", none), "_law_due", "_law_due", defArgs (top 8), defBody (top 8), defScope (top 8), [], []⟩
def d_law : He.DefD := ⟨("law", none), "law", "law", defArgs (top 9), defBody (top 9), defScope (top 9), [], []⟩
def fn : List He.DefD := [d_is_name, d_law_numbers, d_law_leaf, d_law_word, d_law_due, d_law]
def fa : List He.Fa := [.glo "is_name", .glo "_law_numbers", .glo "_law_leaf", .glo "_law_word", .glo "_law_due", .glo "law", .free "len", .glo "Bounds", .str "ALPHABET" "abcdefghijklmnopqrstuvwxyz", .free "int", .free "abs", .free "range", .free "isinstance", .free "bool", .free "str", .free "zip"]
def ex (K : PySem.W.Frag) : Bool := cintB K "Bounds" "LETTERS" 8 && (cintB K "Bounds" "LOCKS" 5 && (cintB K "Bounds" "HOOKS" 4 && (cintB K "Bounds" "ROUTINES" 5 && (cintB K "Bounds" "STATEMENTS" 10 && (cintB K "Bounds" "LENGTH" 60 && (true))))))
abbrev R : PySem.W.OpenRow := PySem.W.OpenLaw.row PySem.Challenge.rw_heldcalls_k01_names
abbrev hk : PySem.W.Hook := hookE 6 fa fn ex
def ob (s : PySem.W.SharedT) : AlE := obsEG 6 fa fn ex (HandSHeadRun.getT s)
theorem ob_eq (s : PySem.W.SharedT) : ob s = hk.obs s.abs := obsEG_eq (HandSHeadRun.getT_eq s)
def loose : List PySem.Str := (["ALPHABET", "Bounds", "is_name", "_law_numbers", "_law_leaf", "_law_word", "_law_due"] : List PySem.Str)
set_option maxHeartbeats 0
theorem run (w : World) : HandSHeadRun.RunEq R (PySem.W.view R.prog [9]) hk ob 12000 loose w := by
  refine PySem.W.byRow2 "special-get-raises" (P := fun w => HandSHeadRun.RunEq R (PySem.W.view R.prog [9]) hk ob 12000 loose w) ?_ ?_ w
  · intro w os
    kernel_rfl
  · intro w os
    kernel_rfl
theorem facts {P : Program} {w : World} {K : PySem.W.Frag} {h : Heap} {mg : Str → Option Value} {f : Addr} (X : K.In h) (G : h.Ns mainGlobals mg) (hfa : mg ("law" : Str) = some (.ref f)) (c : SaysE fa fn ex K) :
    ∃ fd : FuncData, (∀ (s : Shared) (v : Value), BindsTo s fd ⟨[v], []⟩ [("script", v)]) ∧ ∀ base : Heap, K.In base → base.Ns mainGlobals mg → FnOk P w K mg base (L2.CX P w) 2 f fd ["script"] (spE K sg_law φ_law) := by
  have x0 : ex K = true := c.x
  unfold ex at x0
  obtain ⟨x1, x0⟩ := He.ba x0
  obtain ⟨x2, x0⟩ := He.ba x0
  obtain ⟨x3, x0⟩ := He.ba x0
  obtain ⟨x4, x0⟩ := He.ba x0
  obtain ⟨x5, x0⟩ := He.ba x0
  obtain ⟨x6, x0⟩ := He.ba x0
  have T : Fx K mg := ⟨He.free_ok X G (c.d.fact 6 (f := .free "len") (by rfl)), He.glo_ok X G (c.d.fact 7 (f := .glo "Bounds") (by rfl)), cintB_ok x1, He.str_ok X G (c.d.fact 8 (f := .str "ALPHABET" "abcdefghijklmnopqrstuvwxyz") (by rfl)), He.free_ok X G (c.d.fact 9 (f := .free "int") (by rfl)), He.free_ok X G (c.d.fact 10 (f := .free "abs") (by rfl)), He.free_ok X G (c.d.fact 11 (f := .free "range") (by rfl)), He.free_ok X G (c.d.fact 12 (f := .free "isinstance") (by rfl)), He.free_ok X G (c.d.fact 13 (f := .free "bool") (by rfl)), He.free_ok X G (c.d.fact 14 (f := .free "str") (by rfl)), cintB_ok x2, cintB_ok x3, cintB_ok x4, cintB_ok x5, cintB_ok x6, He.free_ok X G (c.d.fact 15 (f := .free "zip") (by rfl))⟩
  obtain ⟨fd_is_name, D_is_name⟩ := c.d.def_ 0 (d := d_is_name) (by rfl)
  obtain ⟨fd_law_numbers, D_law_numbers⟩ := c.d.def_ 1 (d := d_law_numbers) (by rfl)
  obtain ⟨fd_law_leaf, D_law_leaf⟩ := c.d.def_ 2 (d := d_law_leaf) (by rfl)
  obtain ⟨fd_law_word, D_law_word⟩ := c.d.def_ 3 (d := d_law_word) (by rfl)
  obtain ⟨fd_law_due, D_law_due⟩ := c.d.def_ 4 (d := d_law_due) (by rfl)
  obtain ⟨fd_law, D_law⟩ := c.d.def_ 5 (d := d_law) (by rfl)
  have e := hfa.symm.trans (He.glo_ok X G (c.d.fact 5 (f := .glo "law") (by rfl)))
  cases e
  refine ⟨fd_law, fun s v => FunD.bindsA (ps := ["script"]) D_law (fun _ _ _ _ _ _ us hl => match us, hl with | [_], _ => rfl) s [v] rfl, fun base _ _ => ?_⟩
  have C_is_name : Cal P w K mg base "is_name" 1 sg_is_name φ_is_name := ok_is_name T D_is_name (He.glo_ok X G (c.d.fact 0 (f := .glo "is_name") (by rfl)))
  have C__law_numbers : Cal P w K mg base "_law_numbers" 1 sg_law_numbers φ_law_numbers := ok_law_numbers T D_law_numbers (He.glo_ok X G (c.d.fact 1 (f := .glo "_law_numbers") (by rfl)))
  have C__law_leaf : Cal P w K mg base "_law_leaf" 1 sg_law_leaf φ_law_leaf := ok_law_leaf T D_law_leaf (He.glo_ok X G (c.d.fact 2 (f := .glo "_law_leaf") (by rfl)))
  have C__law_word : Cal P w K mg base "_law_word" 1 sg_law_word φ_law_word := ok_law_word T D_law_word (He.glo_ok X G (c.d.fact 3 (f := .glo "_law_word") (by rfl)))
  have C__law_due : Cal P w K mg base "_law_due" 1 sg_law_due φ_law_due := ok_law_due T D_law_due (He.glo_ok X G (c.d.fact 4 (f := .glo "_law_due") (by rfl)))
  exact def_ok D_law sc_law rfl rfl (by decide) rfl (body_law T C__law_numbers C__law_word C_is_name C__law_due C__law_leaf)
end Z

set_option maxHeartbeats 4000000
namespace Q
open PySem PySem.Spec PyProof.Rows L2 Ev Z
/-! ### small things -/
theorem seq_nx {g k : So} {δ δ' : Ev.Env} (h : g δ = some (.nx δ')) : sSeq g k δ = k δ' := by simp only [sSeq, seqO, h]
theorem seq_ret {g k : So} {δ δ' : Ev.Env} {d : D} (h : g δ = some (.ret d δ')) : sSeq g k δ = some (.ret d δ') := by simp only [sSeq, seqO, h]
theorem forGo_ind {t : Tg} {body : So} (I : Nat → Ev.Env → Prop) : ∀ (ds : List D) (k : Nat) (δ : Ev.Env), I k δ → (∀ i d δ, ds[i]? = some d → I (k + i) δ → ∃ δ1 δ2, bindT t d δ = some δ1 ∧ body δ1 = some (.nx δ2) ∧ I (k + i + 1) δ2) → ∃ δ', forGo t body ds δ = some (.nx δ') ∧ I (k + ds.length) δ'
  | [], k, δ, h, _ => ⟨δ, rfl, h⟩
  | d :: ds, k, δ, h, st => by
    obtain ⟨δ1, δ2, e1, e2, h2⟩ := st 0 d δ rfl h
    obtain ⟨δ', e3, h3⟩ := forGo_ind I ds (k + 1) δ2 h2 fun i d δ e q => by
      have := st (i + 1) d δ (by simpa using e) (by rw [show k + (i + 1) = k + 1 + i by omega]; exact q)
      rw [show k + (i + 1) + 1 = k + 1 + i + 1 by omega] at this
      exact this
    refine ⟨δ', ?_, by rw [List.length_cons, show k + (ds.length + 1) = k + 1 + ds.length by omega]; exact h3⟩
    simp only [forGo, e1, e2, Option.bind_some, e3]
theorem atI_lit {α : Type} (xs : List α) (k : Nat) : atI xs (k : Int) = xs[k]? := by
  unfold atI ixN
  rw [if_pos (Int.natCast_nonneg k)]
  by_cases h : k < xs.length
  · rw [if_pos (by omega)]; simp
  · rw [if_neg (by omega)]
    simp; omega
theorem atI_in {α : Type} {xs : List α} {i : Int} (h0 : 0 ≤ i) (h1 : i < xs.length) : ∃ x, atI xs i = some x ∧ x ∈ xs := by
  obtain ⟨k, rfl⟩ := Int.eq_ofNat_of_zero_le h0
  rw [atI_lit]
  have hk : k < xs.length := by omega
  exact ⟨xs[k], List.getElem?_eq_getElem hk, List.getElem_mem hk⟩
theorem rngD_len (n : Nat) : (rngD 0 (n : Int)).length = n := by simp [rngD]
theorem rngD_get {n i : Nat} {d : D} (h : (rngD 0 (n : Int))[i]? = some d) : d = .int (i : Int) ∧ i < n := by
  unfold rngD at h
  rw [List.getElem?_map] at h
  cases e : (List.range ((n : Int) - 0).toNat)[i]? with
  | none => rw [e] at h; cases h
  | some q =>
    rw [e] at h
    obtain ⟨h1, h2⟩ := List.getElem?_eq_some_iff.mp e
    rw [List.getElem_range] at h2
    subst h2
    rw [List.length_range] at h1
    cases h
    exact ⟨by simp, by omega⟩
theorem rngOk0 {n : Nat} (h : n ≤ 1000000) : rngOk 0 (n : Int) = some (rngD 0 (n : Int)) := by
  unfold rngOk
  rw [if_pos]
  simp only [Bool.and_eq_true, decide_eq_true_eq]
  omega
theorem pow18 : powD (.int 10) (.int 18) = some (.int 1000000000000000000) := by kernel_rfl
theorem smallI_of {i : Int} (h0 : 0 ≤ i) (h1 : i < 18446744073709551616) : smallI i = true := by
  unfold smallI
  exact decide_eq_true (by omega)
theorem sL : 1000 < sizeLine := by decide +kernel
/-! ### numbers -/
abbrev nd (l : List Int) : D := .lst (l.map D.int)
theorem nd_app (l : List Int) (x : Int) : nd (l ++ [x]) = .lst (l.map D.int ++ [.int x]) := by simp only [nd, List.map_append, List.map_cons, List.map_nil]
theorem nums_first (ns : List Int) (at_ : Nat) (many : Nat) (ha : at_ ≤ 1000) : ∃ (cell : Int) (skip : Nat), skip ≤ 60000 ∧
    (sIf (fCmp (op pLt) (evVar 1) (fBi lenD (lCons (evVar 0) lNil))) (sSeq (sSet 3 (fIx (evVar 0) (evVar 1))) sNx)
      (sSeq (sIf (fAnd (fCmp (op pGt) (fBi lenD (lCons (evVar 0) lNil)) (fC (.int 0))) (fCmp (op pLt) (fBi absD (lCons (fIx (evVar 0) (fBin modD (fBi intD (lCons (evVar 1) lNil)) (fBi lenD (lCons (evVar 0) lNil)))) lNil)) (fBin powD (fC (.int 10)) (fC (.int 18)))))
        (sSeq (sSet 3 (fIx (evVar 0) (fBin modD (fBi intD (lCons (evVar 1) lNil)) (fBi lenD (lCons (evVar 0) lNil))))) (sSeq (sSet 4 (fBin mulD (fC (.int 60)) (evVar 1))) sNx)) sNx) sNx))
      [some (.lck ns), some (.int at_), some (.int many), some (.int 0), some (.int 0), none, none, none, none] = some (.nx [some (.lck ns), some (.int at_), some (.int many), some (.int cell), some (.int skip), none, none, none, none]) := by
  by_cases h1 : at_ < ns.length
  · refine ⟨ns[at_], 0, by omega, ?_⟩
    have e : atI ns (at_ : Int) = some ns[at_] := by rw [atI_lit]; exact List.getElem?_eq_getElem h1
    have h2 : decide ((at_ : Int) < (ns.length : Int)) = true := decide_eq_true (by omega)
    simp only [Ev.defF, Ev.startE, Ev.outR, Ev.sSeq, Ev.seqO, Ev.sSet, Ev.sIf, Ev.sFor, Ev.sRet, Ev.sRetOw, Ev.sNx, Ev.sApp, Ev.appO, Ev.lstAt, Ev.sFrz, Ev.unsO, Ev.bndS, Ev.bndSB, Ev.bndSL, Ev.bnd, Ev.bndB, Ev.bndL, Ev.bndI, Ev.okO, Ev.okB, Ev.okL, Ev.evVar, Ev.fC, Ev.fBin, Ev.fCmp, Ev.fNot, Ev.fAnd, Ev.fOr, Ev.fIf, Ev.fChain, Ev.fIx, Ev.fSl, Ev.evP, Ev.lNil, Ev.lCons, Ev.consL, Ev.fTup, Ev.fLst, Ev.fBi, Ev.fCall, Ev.fIsi, Ev.fM, Ev.iVal, Ev.iRng1, Ev.iRng2, Ev.iZip, Ev.addD, Ev.subD, Ev.mulD, Ev.divD, Ev.modD, Ev.op, Ev.cmpI, Ev.pLt, Ev.pLe, Ev.pGt, Ev.pGe, Ev.neD, Ev.isN, Ev.isnD, Ev.lenD, Ev.intD, Ev.absD, Ev.tupD, Ev.lstD, Ev.Tn.has, Ev.ixD, Ev.itemsD, Ev.rngF1, Ev.rngF2, List.getElem?_cons_zero, List.getElem?_cons_succ, List.set_cons_zero, List.set_cons_succ, List.map_cons, List.map_nil, List.length_cons, List.length_nil, List.replicate, List.append_nil, List.cons_append, List.nil_append, Bool.not_true, Bool.not_false, Bool.false_eq_true, if_true, if_false, reduceIte, ite_true, ite_false, Option.bind_some, Option.bind_none, Option.map_some, Option.map_none, h2, e]
    rfl
  · have h2 : decide ((at_ : Int) < (ns.length : Int)) = false := decide_eq_false (by omega)
    by_cases h3 : 0 < ns.length
    · have h4 : decide (0 < (ns.length : Int)) = true := decide_eq_true (by omega)
      have h5 : 0 ≤ (at_ : Int) % (ns.length : Int) := Int.emod_nonneg _ (by omega)
      have h6 : (at_ : Int) % (ns.length : Int) < (ns.length : Int) := Int.emod_lt_of_pos _ (by omega)
      obtain ⟨x, e, _⟩ := atI_in (xs := ns) h5 h6
      by_cases h7 : (if x < 0 then -x else x) < 1000000000000000000
      · refine ⟨x, 60 * at_, by omega, ?_⟩
        have h8 : smallI 60 = true := by decide +kernel
        simp only [Ev.defF, Ev.startE, Ev.outR, Ev.sSeq, Ev.seqO, Ev.sSet, Ev.sIf, Ev.sFor, Ev.sRet, Ev.sRetOw, Ev.sNx, Ev.sApp, Ev.appO, Ev.lstAt, Ev.sFrz, Ev.unsO, Ev.bndS, Ev.bndSB, Ev.bndSL, Ev.bnd, Ev.bndB, Ev.bndL, Ev.bndI, Ev.okO, Ev.okB, Ev.okL, Ev.evVar, Ev.fC, Ev.fBin, Ev.fCmp, Ev.fNot, Ev.fAnd, Ev.fOr, Ev.fIf, Ev.fChain, Ev.fIx, Ev.fSl, Ev.evP, Ev.lNil, Ev.lCons, Ev.consL, Ev.fTup, Ev.fLst, Ev.fBi, Ev.fCall, Ev.fIsi, Ev.fM, Ev.iVal, Ev.iRng1, Ev.iRng2, Ev.iZip, Ev.addD, Ev.subD, Ev.mulD, Ev.divD, Ev.modD, Ev.op, Ev.cmpI, Ev.pLt, Ev.pLe, Ev.pGt, Ev.pGe, Ev.neD, Ev.isN, Ev.isnD, Ev.lenD, Ev.intD, Ev.absD, Ev.tupD, Ev.lstD, Ev.Tn.has, Ev.ixD, Ev.itemsD, Ev.rngF1, Ev.rngF2, List.getElem?_cons_zero, List.getElem?_cons_succ, List.set_cons_zero, List.set_cons_succ, List.map_cons, List.map_nil, List.length_cons, List.length_nil, List.replicate, List.append_nil, List.cons_append, List.nil_append, Bool.not_true, Bool.not_false, Bool.false_eq_true, if_true, if_false, reduceIte, ite_true, ite_false, Option.bind_some, Option.bind_none, Option.map_some, Option.map_none, h2, h4, e, pow18, h7, h8, Bool.true_or, decide_true]
        rfl
      · refine ⟨0, 0, by omega, ?_⟩
        simp only [Ev.defF, Ev.startE, Ev.outR, Ev.sSeq, Ev.seqO, Ev.sSet, Ev.sIf, Ev.sFor, Ev.sRet, Ev.sRetOw, Ev.sNx, Ev.sApp, Ev.appO, Ev.lstAt, Ev.sFrz, Ev.unsO, Ev.bndS, Ev.bndSB, Ev.bndSL, Ev.bnd, Ev.bndB, Ev.bndL, Ev.bndI, Ev.okO, Ev.okB, Ev.okL, Ev.evVar, Ev.fC, Ev.fBin, Ev.fCmp, Ev.fNot, Ev.fAnd, Ev.fOr, Ev.fIf, Ev.fChain, Ev.fIx, Ev.fSl, Ev.evP, Ev.lNil, Ev.lCons, Ev.consL, Ev.fTup, Ev.fLst, Ev.fBi, Ev.fCall, Ev.fIsi, Ev.fM, Ev.iVal, Ev.iRng1, Ev.iRng2, Ev.iZip, Ev.addD, Ev.subD, Ev.mulD, Ev.divD, Ev.modD, Ev.op, Ev.cmpI, Ev.pLt, Ev.pLe, Ev.pGt, Ev.pGe, Ev.neD, Ev.isN, Ev.isnD, Ev.lenD, Ev.intD, Ev.absD, Ev.tupD, Ev.lstD, Ev.Tn.has, Ev.ixD, Ev.itemsD, Ev.rngF1, Ev.rngF2, List.getElem?_cons_zero, List.getElem?_cons_succ, List.set_cons_zero, List.set_cons_succ, List.map_cons, List.map_nil, List.length_cons, List.length_nil, List.replicate, List.append_nil, List.cons_append, List.nil_append, Bool.not_true, Bool.not_false, Bool.false_eq_true, if_true, if_false, reduceIte, ite_true, ite_false, Option.bind_some, Option.bind_none, Option.map_some, Option.map_none, h2, h4, e, pow18, h7, decide_false]
        rfl
    · refine ⟨0, 0, by omega, ?_⟩
      have h4 : decide (0 < (ns.length : Int)) = false := decide_eq_false (by omega)
      simp only [Ev.defF, Ev.startE, Ev.outR, Ev.sSeq, Ev.seqO, Ev.sSet, Ev.sIf, Ev.sFor, Ev.sRet, Ev.sRetOw, Ev.sNx, Ev.sApp, Ev.appO, Ev.lstAt, Ev.sFrz, Ev.unsO, Ev.bndS, Ev.bndSB, Ev.bndSL, Ev.bnd, Ev.bndB, Ev.bndL, Ev.bndI, Ev.okO, Ev.okB, Ev.okL, Ev.evVar, Ev.fC, Ev.fBin, Ev.fCmp, Ev.fNot, Ev.fAnd, Ev.fOr, Ev.fIf, Ev.fChain, Ev.fIx, Ev.fSl, Ev.evP, Ev.lNil, Ev.lCons, Ev.consL, Ev.fTup, Ev.fLst, Ev.fBi, Ev.fCall, Ev.fIsi, Ev.fM, Ev.iVal, Ev.iRng1, Ev.iRng2, Ev.iZip, Ev.addD, Ev.subD, Ev.mulD, Ev.divD, Ev.modD, Ev.op, Ev.cmpI, Ev.pLt, Ev.pLe, Ev.pGt, Ev.pGe, Ev.neD, Ev.isN, Ev.isnD, Ev.lenD, Ev.intD, Ev.absD, Ev.tupD, Ev.lstD, Ev.Tn.has, Ev.ixD, Ev.itemsD, Ev.rngF1, Ev.rngF2, List.getElem?_cons_zero, List.getElem?_cons_succ, List.set_cons_zero, List.set_cons_succ, List.map_cons, List.map_nil, List.length_cons, List.length_nil, List.replicate, List.append_nil, List.cons_append, List.nil_append, Bool.not_true, Bool.not_false, Bool.false_eq_true, if_true, if_false, reduceIte, ite_true, ite_false, Option.bind_some, Option.bind_none, Option.map_some, Option.map_none, h2, h4]
      rfl
theorem lt_sL {n : Nat} (h : n ≤ 1000) : n < sizeLine := Nat.lt_of_le_of_lt h sL
def numsL1 : So := (sSeq (sSet 8 (fBin modD (fBi intD (lCons (fBin mulD (evVar 5) (fBin addD (fC (.int 48271)) (fBin mulD (fC (.int 69621)) (fBin addD (evVar 7) (evVar 4))))) lNil)) (fC (.int 2147483647))))
  (sSeq (sApp 6 (fBin modD (fBi intD (lCons (fBin mulD (fBin mulD (evVar 8) (evVar 8)) (fC (.int 16807))) lNil)) (fC (.int 2147483629))))
  sNx))
def numsL2 : So := (sSeq (sApp 6 (fBin modD (fBi intD (lCons (evVar 5) lNil)) (fC (.int 100))))
  (sSeq (sSet 5 (fBin divD (evVar 5) (fC (.int 100))))
  sNx))
def numsB : So := (sSeq (sIf (fCmp (op pLt) (evVar 5) (fBin powD (fC (.int 10)) (fC (.int 18)))) (sSeq (sFor (.nm 7) (iRng1 (evVar 2)) numsL1)
  (sSeq (sRetOw 6)
  sNx)) sNx)
  (sSeq (sFor (.nm 7) (iRng1 (evVar 2)) numsL2)
  (sSeq (sRetOw 6)
  sNx)))
theorem nums_loops (ns : List Int) (at_ many : Nat) (hm : many ≤ 1000) (cell size : Int) (skip : Nat) (h0 : 0 ≤ size) :
    ∃ (l : List Int) (δ : Ev.Env), l.length = many ∧ (∀ x ∈ l, 0 ≤ x) ∧ numsB [some (.lck ns), some (.int at_), some (.int many), some (.int cell), some (.int skip), some (.int size), some (nd []), none, none] = some (.ret (nd l) δ) := by
  by_cases hs : size < 1000000000000000000
  · have hs2 : decide (size < 1000000000000000000) = true := decide_eq_true hs
    obtain ⟨δ', e, l, hl, hx, o7, o8, rfl⟩ := forGo_ind (t := .nm 7) (body := numsL1) (fun i δ => ∃ l : List Int, l.length = i ∧ (∀ x ∈ l, 0 ≤ x) ∧ ∃ o7 o8, δ = [some (.lck ns), some (.int at_), some (.int many), some (.int cell), some (.int skip), some (.int size), some (nd l), o7, o8]) (rngD 0 (many : Int)) 0
      [some (.lck ns), some (.int at_), some (.int many), some (.int cell), some (.int skip), some (.int size), some (nd []), none, none] ⟨[], rfl, fun _ h => (nomatch h), none, none, rfl⟩ (by
        rintro i d δ hd ⟨l, hl, hx, o7, o8, rfl⟩
        obtain ⟨rfl, hi⟩ := rngD_get hd
        have g1 : smallI 69621 = true := by kernel_rfl
        have g2 : smallI size = true := smallI_of h0 (by omega)
        have g3 : smallI 16807 = true := by kernel_rfl
        have g5 : ∀ a : Int, smallI (a % 2147483647) = true := fun a => smallI_of (Int.emod_nonneg _ (by decide)) (by have := Int.emod_lt_of_pos a (show (0 : Int) < 2147483647 by decide); omega)
        have g6 : l.length < sizeLine := lt_sL (by omega)
        generalize hmx : (size * (48271 + 69621 * ((i : Int) + (skip : Int)))) % 2147483647 = mx
        have g7 : smallI mx = true := hmx ▸ g5 _
        refine ⟨_, [some (.lck ns), some (.int at_), some (.int many), some (.int cell), some (.int skip), some (.int size), some (nd (l ++ [(mx * mx * 16807) % 2147483629])), some (.int i), some (.int mx)], rfl, ?_, l ++ [(mx * mx * 16807) % 2147483629], ?_, ?_, _, _, rfl⟩
        · rw [nd_app]
          unfold numsL1
          simp only [Ev.defF, Ev.startE, Ev.outR, Ev.sSeq, Ev.seqO, Ev.sSet, Ev.sIf, Ev.sFor, Ev.sRet, Ev.sRetOw, Ev.sNx, Ev.sApp, Ev.appO, Ev.lstAt, Ev.sFrz, Ev.unsO, Ev.bndS, Ev.bndSB, Ev.bndSL, Ev.bnd, Ev.bndB, Ev.bndL, Ev.bndI, Ev.okO, Ev.okB, Ev.okL, Ev.evVar, Ev.fC, Ev.fBin, Ev.fCmp, Ev.fNot, Ev.fAnd, Ev.fOr, Ev.fIf, Ev.fChain, Ev.fIx, Ev.fSl, Ev.evP, Ev.lNil, Ev.lCons, Ev.consL, Ev.fTup, Ev.fLst, Ev.fBi, Ev.fCall, Ev.fIsi, Ev.fM, Ev.iVal, Ev.iRng1, Ev.iRng2, Ev.iZip, Ev.addD, Ev.subD, Ev.mulD, Ev.divD, Ev.modD, Ev.op, Ev.cmpI, Ev.pLt, Ev.pLe, Ev.pGt, Ev.pGe, Ev.neD, Ev.isN, Ev.isnD, Ev.lenD, Ev.intD, Ev.absD, Ev.tupD, Ev.lstD, Ev.Tn.has, Ev.ixD, Ev.itemsD, Ev.rngF1, Ev.rngF2, List.getElem?_cons_zero, List.getElem?_cons_succ, List.set_cons_zero, List.set_cons_succ, List.map_cons, List.map_nil, List.length_cons, List.length_nil, List.replicate, List.append_nil, List.cons_append, List.nil_append, Bool.not_true, Bool.not_false, Bool.false_eq_true, if_true, if_false, reduceIte, ite_true, ite_false, Option.bind_some, Option.bind_none, Option.map_some, Option.map_none, g1, g2, g3, g7, g6, hmx, Bool.true_or, Bool.or_true, List.length_map, List.map_append, decide_true, show decide ((0 : Int) < 2147483647) = true from rfl, show decide ((0 : Int) < 2147483629) = true from rfl]
        · rw [List.length_append, List.length_singleton]; omega
        · intro x hq
          rcases List.mem_append.mp hq with q | q
          · exact hx x q
          · rw [List.mem_singleton.mp q]; exact Int.emod_nonneg _ (by decide))
    rw [rngD_len, Nat.zero_add] at hl
    refine ⟨l, [some (.lck ns), some (.int at_), some (.int many), some (.int cell), some (.int skip), some (.int size), none, o7, o8], hl, hx, ?_⟩
    unfold numsB
    simp only [Ev.defF, Ev.startE, Ev.outR, Ev.sSeq, Ev.seqO, Ev.sSet, Ev.sIf, Ev.sFor, Ev.sRet, Ev.sRetOw, Ev.sNx, Ev.sApp, Ev.appO, Ev.lstAt, Ev.sFrz, Ev.unsO, Ev.bndS, Ev.bndSB, Ev.bndSL, Ev.bnd, Ev.bndB, Ev.bndL, Ev.bndI, Ev.okO, Ev.okB, Ev.okL, Ev.evVar, Ev.fC, Ev.fBin, Ev.fCmp, Ev.fNot, Ev.fAnd, Ev.fOr, Ev.fIf, Ev.fChain, Ev.fIx, Ev.fSl, Ev.evP, Ev.lNil, Ev.lCons, Ev.consL, Ev.fTup, Ev.fLst, Ev.fBi, Ev.fCall, Ev.fIsi, Ev.fM, Ev.iVal, Ev.iRng1, Ev.iRng2, Ev.iZip, Ev.addD, Ev.subD, Ev.mulD, Ev.divD, Ev.modD, Ev.op, Ev.cmpI, Ev.pLt, Ev.pLe, Ev.pGt, Ev.pGe, Ev.neD, Ev.isN, Ev.isnD, Ev.lenD, Ev.intD, Ev.absD, Ev.tupD, Ev.lstD, Ev.Tn.has, Ev.ixD, Ev.itemsD, Ev.rngF1, Ev.rngF2, List.getElem?_cons_zero, List.getElem?_cons_succ, List.set_cons_zero, List.set_cons_succ, List.map_cons, List.map_nil, List.length_cons, List.length_nil, List.replicate, List.append_nil, List.cons_append, List.nil_append, Bool.not_true, Bool.not_false, Bool.false_eq_true, if_true, if_false, reduceIte, ite_true, ite_false, Option.bind_some, Option.bind_none, Option.map_some, Option.map_none, pow18, hs2, rngOk0 (show many ≤ 1000000 by omega)]
    rw [e]
    simp only [Ev.defF, Ev.startE, Ev.outR, Ev.sSeq, Ev.seqO, Ev.sSet, Ev.sIf, Ev.sFor, Ev.sRet, Ev.sRetOw, Ev.sNx, Ev.sApp, Ev.appO, Ev.lstAt, Ev.sFrz, Ev.unsO, Ev.bndS, Ev.bndSB, Ev.bndSL, Ev.bnd, Ev.bndB, Ev.bndL, Ev.bndI, Ev.okO, Ev.okB, Ev.okL, Ev.evVar, Ev.fC, Ev.fBin, Ev.fCmp, Ev.fNot, Ev.fAnd, Ev.fOr, Ev.fIf, Ev.fChain, Ev.fIx, Ev.fSl, Ev.evP, Ev.lNil, Ev.lCons, Ev.consL, Ev.fTup, Ev.fLst, Ev.fBi, Ev.fCall, Ev.fIsi, Ev.fM, Ev.iVal, Ev.iRng1, Ev.iRng2, Ev.iZip, Ev.addD, Ev.subD, Ev.mulD, Ev.divD, Ev.modD, Ev.op, Ev.cmpI, Ev.pLt, Ev.pLe, Ev.pGt, Ev.pGe, Ev.neD, Ev.isN, Ev.isnD, Ev.lenD, Ev.intD, Ev.absD, Ev.tupD, Ev.lstD, Ev.Tn.has, Ev.ixD, Ev.itemsD, Ev.rngF1, Ev.rngF2, List.getElem?_cons_zero, List.getElem?_cons_succ, List.set_cons_zero, List.set_cons_succ, List.map_cons, List.map_nil, List.length_cons, List.length_nil, List.replicate, List.append_nil, List.cons_append, List.nil_append, Bool.not_true, Bool.not_false, Bool.false_eq_true, if_true, if_false, reduceIte, ite_true, ite_false, Option.bind_some, Option.bind_none, Option.map_some, Option.map_none]
  · have hs2 : decide (size < 1000000000000000000) = false := decide_eq_false hs
    obtain ⟨δ', e, l, sz, hl, hx, hz, o7, rfl⟩ := forGo_ind (t := .nm 7) (body := numsL2) (fun i δ => ∃ (l : List Int) (sz : Int), l.length = i ∧ (∀ x ∈ l, 0 ≤ x) ∧ 0 ≤ sz ∧ ∃ o7, δ = [some (.lck ns), some (.int at_), some (.int many), some (.int cell), some (.int skip), some (.int sz), some (nd l), o7, none]) (rngD 0 (many : Int)) 0
      [some (.lck ns), some (.int at_), some (.int many), some (.int cell), some (.int skip), some (.int size), some (nd []), none, none] ⟨[], size, rfl, fun _ h => (nomatch h), h0, none, rfl⟩ (by
        rintro i d δ hd ⟨l, sz, hl, hx, hz, o7, rfl⟩
        obtain ⟨rfl, hi⟩ := rngD_get hd
        have g6 : l.length < sizeLine := lt_sL (by omega)
        refine ⟨_, [some (.lck ns), some (.int at_), some (.int many), some (.int cell), some (.int skip), some (.int (sz / 100)), some (nd (l ++ [sz % 100])), some (.int i), none], rfl, ?_, l ++ [sz % 100], sz / 100, ?_, ?_, Int.ediv_nonneg hz (by decide), _, rfl⟩
        · rw [nd_app]
          unfold numsL2
          simp only [Ev.defF, Ev.startE, Ev.outR, Ev.sSeq, Ev.seqO, Ev.sSet, Ev.sIf, Ev.sFor, Ev.sRet, Ev.sRetOw, Ev.sNx, Ev.sApp, Ev.appO, Ev.lstAt, Ev.sFrz, Ev.unsO, Ev.bndS, Ev.bndSB, Ev.bndSL, Ev.bnd, Ev.bndB, Ev.bndL, Ev.bndI, Ev.okO, Ev.okB, Ev.okL, Ev.evVar, Ev.fC, Ev.fBin, Ev.fCmp, Ev.fNot, Ev.fAnd, Ev.fOr, Ev.fIf, Ev.fChain, Ev.fIx, Ev.fSl, Ev.evP, Ev.lNil, Ev.lCons, Ev.consL, Ev.fTup, Ev.fLst, Ev.fBi, Ev.fCall, Ev.fIsi, Ev.fM, Ev.iVal, Ev.iRng1, Ev.iRng2, Ev.iZip, Ev.addD, Ev.subD, Ev.mulD, Ev.divD, Ev.modD, Ev.op, Ev.cmpI, Ev.pLt, Ev.pLe, Ev.pGt, Ev.pGe, Ev.neD, Ev.isN, Ev.isnD, Ev.lenD, Ev.intD, Ev.absD, Ev.tupD, Ev.lstD, Ev.Tn.has, Ev.ixD, Ev.itemsD, Ev.rngF1, Ev.rngF2, List.getElem?_cons_zero, List.getElem?_cons_succ, List.set_cons_zero, List.set_cons_succ, List.map_cons, List.map_nil, List.length_cons, List.length_nil, List.replicate, List.append_nil, List.cons_append, List.nil_append, Bool.not_true, Bool.not_false, Bool.false_eq_true, if_true, if_false, reduceIte, ite_true, ite_false, Option.bind_some, Option.bind_none, Option.map_some, Option.map_none, g6, Bool.true_or, Bool.or_true, List.length_map, List.map_append, decide_true, show decide ((0 : Int) < 100) = true from rfl, show decide ((100 : Int) < 1073741824) = true from rfl, Bool.and_true]
        · rw [List.length_append, List.length_singleton]; omega
        · intro x hq
          rcases List.mem_append.mp hq with q | q
          · exact hx x q
          · rw [List.mem_singleton.mp q]; exact Int.emod_nonneg _ (by decide))
    rw [rngD_len, Nat.zero_add] at hl
    refine ⟨l, [some (.lck ns), some (.int at_), some (.int many), some (.int cell), some (.int skip), some (.int sz), none, o7, none], hl, hx, ?_⟩
    unfold numsB
    simp only [Ev.defF, Ev.startE, Ev.outR, Ev.sSeq, Ev.seqO, Ev.sSet, Ev.sIf, Ev.sFor, Ev.sRet, Ev.sRetOw, Ev.sNx, Ev.sApp, Ev.appO, Ev.lstAt, Ev.sFrz, Ev.unsO, Ev.bndS, Ev.bndSB, Ev.bndSL, Ev.bnd, Ev.bndB, Ev.bndL, Ev.bndI, Ev.okO, Ev.okB, Ev.okL, Ev.evVar, Ev.fC, Ev.fBin, Ev.fCmp, Ev.fNot, Ev.fAnd, Ev.fOr, Ev.fIf, Ev.fChain, Ev.fIx, Ev.fSl, Ev.evP, Ev.lNil, Ev.lCons, Ev.consL, Ev.fTup, Ev.fLst, Ev.fBi, Ev.fCall, Ev.fIsi, Ev.fM, Ev.iVal, Ev.iRng1, Ev.iRng2, Ev.iZip, Ev.addD, Ev.subD, Ev.mulD, Ev.divD, Ev.modD, Ev.op, Ev.cmpI, Ev.pLt, Ev.pLe, Ev.pGt, Ev.pGe, Ev.neD, Ev.isN, Ev.isnD, Ev.lenD, Ev.intD, Ev.absD, Ev.tupD, Ev.lstD, Ev.Tn.has, Ev.ixD, Ev.itemsD, Ev.rngF1, Ev.rngF2, List.getElem?_cons_zero, List.getElem?_cons_succ, List.set_cons_zero, List.set_cons_succ, List.map_cons, List.map_nil, List.length_cons, List.length_nil, List.replicate, List.append_nil, List.cons_append, List.nil_append, Bool.not_true, Bool.not_false, Bool.false_eq_true, if_true, if_false, reduceIte, ite_true, ite_false, Option.bind_some, Option.bind_none, Option.map_some, Option.map_none, pow18, hs2, rngOk0 (show many ≤ 1000000 by omega)]
    rw [e]
    simp only [Ev.defF, Ev.startE, Ev.outR, Ev.sSeq, Ev.seqO, Ev.sSet, Ev.sIf, Ev.sFor, Ev.sRet, Ev.sRetOw, Ev.sNx, Ev.sApp, Ev.appO, Ev.lstAt, Ev.sFrz, Ev.unsO, Ev.bndS, Ev.bndSB, Ev.bndSL, Ev.bnd, Ev.bndB, Ev.bndL, Ev.bndI, Ev.okO, Ev.okB, Ev.okL, Ev.evVar, Ev.fC, Ev.fBin, Ev.fCmp, Ev.fNot, Ev.fAnd, Ev.fOr, Ev.fIf, Ev.fChain, Ev.fIx, Ev.fSl, Ev.evP, Ev.lNil, Ev.lCons, Ev.consL, Ev.fTup, Ev.fLst, Ev.fBi, Ev.fCall, Ev.fIsi, Ev.fM, Ev.iVal, Ev.iRng1, Ev.iRng2, Ev.iZip, Ev.addD, Ev.subD, Ev.mulD, Ev.divD, Ev.modD, Ev.op, Ev.cmpI, Ev.pLt, Ev.pLe, Ev.pGt, Ev.pGe, Ev.neD, Ev.isN, Ev.isnD, Ev.lenD, Ev.intD, Ev.absD, Ev.tupD, Ev.lstD, Ev.Tn.has, Ev.ixD, Ev.itemsD, Ev.rngF1, Ev.rngF2, List.getElem?_cons_zero, List.getElem?_cons_succ, List.set_cons_zero, List.set_cons_succ, List.map_cons, List.map_nil, List.length_cons, List.length_nil, List.replicate, List.append_nil, List.cons_append, List.nil_append, Bool.not_true, Bool.not_false, Bool.false_eq_true, if_true, if_false, reduceIte, ite_true, ite_false, Option.bind_some, Option.bind_none, Option.map_some, Option.map_none]
theorem numbers (ns : List Int) (at_ many : Nat) (ha : at_ ≤ 1000) (hm : many ≤ 1000) : ∃ l : List Int, l.length = many ∧ (∀ x ∈ l, 0 ≤ x) ∧ φ_law_numbers [.lck ns, .int at_, .int many] = some (.ok (nd l)) := by
  obtain ⟨cell, skip, _, e1⟩ := nums_first ns at_ many ha
  have hsz : 0 ≤ (if cell < 0 then -cell else cell) + (if decide (cell < 0) = true then 1 else 0) := by
    by_cases h : cell < 0
    · rw [if_pos h, if_pos (decide_eq_true h)]; omega
    · rw [if_neg h, if_neg (by simp [h])]; omega
  obtain ⟨l, δ, hl, hx, e2⟩ := nums_loops ns at_ many hm cell _ skip hsz
  refine ⟨l, hl, hx, ?_⟩
  have key : g_law_numbers [some (.lck ns), some (.int at_), some (.int many), none, none, none, none, none, none] = some (.ret (nd l) δ) := by
    unfold g_law_numbers
    rw [seq_nx (δ' := [some (.lck ns), some (.int at_), some (.int many), some (.int 0), none, none, none, none, none]) rfl, seq_nx (δ' := [some (.lck ns), some (.int at_), some (.int many), some (.int 0), some (.int 0), none, none, none, none]) rfl, seq_nx e1,
      seq_nx (δ' := [some (.lck ns), some (.int at_), some (.int many), some (.int cell), some (.int skip), some (.int ((if cell < 0 then -cell else cell) + (if decide (cell < 0) = true then 1 else 0))), none, none, none]) rfl,
      seq_nx (δ' := [some (.lck ns), some (.int at_), some (.int many), some (.int cell), some (.int skip), some (.int ((if cell < 0 then -cell else cell) + (if decide (cell < 0) = true then 1 else 0))), some (nd []), none, none]) rfl]
    exact e2
  unfold φ_law_numbers defF
  rw [show startE 9 [D.lck ns, D.int at_, D.int many] = [some (.lck ns), some (.int at_), some (.int many), none, none, none, none, none, none] from rfl, key]
  rfl
end Q

set_option maxHeartbeats 4000000
namespace Q
open PySem PySem.Spec PyProof.Rows L2 Ev Z
abbrev al : Str := "abcdefghijklmnopqrstuvwxyz"
abbrev inAl (q : Nat) : Bool := decide (q ∈ al.cps.toList)
abbrev chr (q : Nat) : D := .str ⟨#[q]⟩
def nameB (w : Str) : Bool := decide (1 ≤ w.length) && decide (w.length ≤ 8) && w.cps.toList.all inAl
theorem in_chr (neg : Bool) (q : Nat) (z : Str) : inN neg (chr q) (.str z) = some (if neg then !decide (q ∈ z.cps.toList) else decide (q ∈ z.cps.toList)) := by
  cases neg <;> rfl
def nameL : So := (sSeq (sIf (fCmp (inN true) (evVar 1) (fC (.str al))) (sSeq (sRet (fC (.bl false))) sNx) sNx) sNx)
theorem name_loop (w : Str) : ∀ (l : List Nat) (o : Option D), ∃ o', forGo (.nm 1) nameL (l.map chr) [some (.str w), o] = some (if l.all inAl then .nx [some (.str w), o'] else .ret (.bl false) [some (.str w), o'])
  | [], o => ⟨o, by simp [forGo]⟩
  | q :: l, o => by
    by_cases h : q ∈ al.cps.toList
    · obtain ⟨o', e⟩ := name_loop w l (some (chr q))
      refine ⟨o', ?_⟩
      have hq : inAl q = true := decide_eq_true h
      have step : nameL [some (.str w), some (chr q)] = some (.nx [some (.str w), some (chr q)]) := by
        unfold nameL
        simp only [Ev.defF, Ev.startE, Ev.outR, Ev.sSeq, Ev.seqO, Ev.sSet, Ev.sIf, Ev.sFor, Ev.sRet, Ev.sRetOw, Ev.sNx, Ev.sApp, Ev.appO, Ev.lstAt, Ev.sFrz, Ev.unsO, Ev.bndS, Ev.bndSB, Ev.bndSL, Ev.bnd, Ev.bndB, Ev.bndL, Ev.bndI, Ev.okO, Ev.okB, Ev.okL, Ev.evVar, Ev.fC, Ev.fBin, Ev.fCmp, Ev.fNot, Ev.fAnd, Ev.fOr, Ev.fIf, Ev.fChain, Ev.fIx, Ev.fSl, Ev.evP, Ev.lNil, Ev.lCons, Ev.consL, Ev.fTup, Ev.fLst, Ev.fBi, Ev.fCall, Ev.fIsi, Ev.fM, Ev.iVal, Ev.iRng1, Ev.iRng2, Ev.iZip, Ev.addD, Ev.subD, Ev.mulD, Ev.divD, Ev.modD, Ev.op, Ev.cmpI, Ev.pLt, Ev.pLe, Ev.pGt, Ev.pGe, Ev.neD, Ev.isN, Ev.isnD, Ev.lenD, Ev.intD, Ev.absD, Ev.tupD, Ev.lstD, Ev.Tn.has, Ev.ixD, Ev.itemsD, Ev.rngF1, Ev.rngF2, List.getElem?_cons_zero, List.getElem?_cons_succ, List.set_cons_zero, List.set_cons_succ, List.map_cons, List.map_nil, List.length_cons, List.length_nil, List.replicate, List.append_nil, List.cons_append, List.nil_append, Bool.not_true, Bool.not_false, Bool.false_eq_true, if_true, if_false, reduceIte, ite_true, ite_false, Option.bind_some, Option.bind_none, Option.map_some, Option.map_none, in_chr, hq]
      rw [List.all_cons, hq, Bool.true_and, ← e]
      simp only [List.map_cons, forGo, bindT, Option.bind_some, List.set_cons_succ, List.set_cons_zero, step]
    · refine ⟨some (chr q), ?_⟩
      have hq : inAl q = false := decide_eq_false h
      have step : nameL [some (.str w), some (chr q)] = some (.ret (.bl false) [some (.str w), some (chr q)]) := by
        unfold nameL
        simp only [Ev.defF, Ev.startE, Ev.outR, Ev.sSeq, Ev.seqO, Ev.sSet, Ev.sIf, Ev.sFor, Ev.sRet, Ev.sRetOw, Ev.sNx, Ev.sApp, Ev.appO, Ev.lstAt, Ev.sFrz, Ev.unsO, Ev.bndS, Ev.bndSB, Ev.bndSL, Ev.bnd, Ev.bndB, Ev.bndL, Ev.bndI, Ev.okO, Ev.okB, Ev.okL, Ev.evVar, Ev.fC, Ev.fBin, Ev.fCmp, Ev.fNot, Ev.fAnd, Ev.fOr, Ev.fIf, Ev.fChain, Ev.fIx, Ev.fSl, Ev.evP, Ev.lNil, Ev.lCons, Ev.consL, Ev.fTup, Ev.fLst, Ev.fBi, Ev.fCall, Ev.fIsi, Ev.fM, Ev.iVal, Ev.iRng1, Ev.iRng2, Ev.iZip, Ev.addD, Ev.subD, Ev.mulD, Ev.divD, Ev.modD, Ev.op, Ev.cmpI, Ev.pLt, Ev.pLe, Ev.pGt, Ev.pGe, Ev.neD, Ev.isN, Ev.isnD, Ev.lenD, Ev.intD, Ev.absD, Ev.tupD, Ev.lstD, Ev.Tn.has, Ev.ixD, Ev.itemsD, Ev.rngF1, Ev.rngF2, List.getElem?_cons_zero, List.getElem?_cons_succ, List.set_cons_zero, List.set_cons_succ, List.map_cons, List.map_nil, List.length_cons, List.length_nil, List.replicate, List.append_nil, List.cons_append, List.nil_append, Bool.not_true, Bool.not_false, Bool.false_eq_true, if_true, if_false, reduceIte, ite_true, ite_false, Option.bind_some, Option.bind_none, Option.map_some, Option.map_none, in_chr, hq]
      rw [List.all_cons, hq, Bool.false_and]
      simp only [List.map_cons, forGo, bindT, Option.bind_some, List.set_cons_succ, List.set_cons_zero, step]
      rfl
theorem is_name_eq (w : Str) (h : w.length ≤ sizeLine) : φ_is_name [.str w] = some (.ok (.bl (nameB w))) := by
  unfold φ_is_name defF
  have key : ∃ δ, g_is_name [some (.str w), none] = some (.ret (.bl (nameB w)) δ) := by
    unfold g_is_name nameB
    by_cases h1 : 1 ≤ w.length
    · by_cases h2 : w.length ≤ 8
      · obtain ⟨o', e⟩ := name_loop w w.cps.toList none
        have d1 : decide ((1 : Int) ≤ (w.length : Int)) = true := decide_eq_true (by omega)
        have d2 : decide ((w.length : Int) ≤ 8) = true := decide_eq_true (by omega)
        rw [seq_nx (δ' := [some (.str w), none]) (by simp only [Ev.defF, Ev.startE, Ev.outR, Ev.sSeq, Ev.seqO, Ev.sSet, Ev.sIf, Ev.sFor, Ev.sRet, Ev.sRetOw, Ev.sNx, Ev.sApp, Ev.appO, Ev.lstAt, Ev.sFrz, Ev.unsO, Ev.bndS, Ev.bndSB, Ev.bndSL, Ev.bnd, Ev.bndB, Ev.bndL, Ev.bndI, Ev.okO, Ev.okB, Ev.okL, Ev.evVar, Ev.fC, Ev.fBin, Ev.fCmp, Ev.fNot, Ev.fAnd, Ev.fOr, Ev.fIf, Ev.fChain, Ev.fIx, Ev.fSl, Ev.evP, Ev.lNil, Ev.lCons, Ev.consL, Ev.fTup, Ev.fLst, Ev.fBi, Ev.fCall, Ev.fIsi, Ev.fM, Ev.iVal, Ev.iRng1, Ev.iRng2, Ev.iZip, Ev.addD, Ev.subD, Ev.mulD, Ev.divD, Ev.modD, Ev.op, Ev.cmpI, Ev.pLt, Ev.pLe, Ev.pGt, Ev.pGe, Ev.neD, Ev.isN, Ev.isnD, Ev.lenD, Ev.intD, Ev.absD, Ev.tupD, Ev.lstD, Ev.Tn.has, Ev.ixD, Ev.itemsD, Ev.rngF1, Ev.rngF2, List.getElem?_cons_zero, List.getElem?_cons_succ, List.set_cons_zero, List.set_cons_succ, List.map_cons, List.map_nil, List.length_cons, List.length_nil, List.replicate, List.append_nil, List.cons_append, List.nil_append, Bool.not_true, Bool.not_false, Bool.false_eq_true, if_true, if_false, reduceIte, ite_true, ite_false, Option.bind_some, Option.bind_none, Option.map_some, Option.map_none, h, d1, d2])]
        have e2 : (sFor (.nm 1) (iVal (evVar 0)) nameL) [some (.str w), none] = some (if w.cps.toList.all inAl then .nx [some (.str w), o'] else .ret (.bl false) [some (.str w), o']) := by
          simp only [Ev.defF, Ev.startE, Ev.outR, Ev.sSeq, Ev.seqO, Ev.sSet, Ev.sIf, Ev.sFor, Ev.sRet, Ev.sRetOw, Ev.sNx, Ev.sApp, Ev.appO, Ev.lstAt, Ev.sFrz, Ev.unsO, Ev.bndS, Ev.bndSB, Ev.bndSL, Ev.bnd, Ev.bndB, Ev.bndL, Ev.bndI, Ev.okO, Ev.okB, Ev.okL, Ev.evVar, Ev.fC, Ev.fBin, Ev.fCmp, Ev.fNot, Ev.fAnd, Ev.fOr, Ev.fIf, Ev.fChain, Ev.fIx, Ev.fSl, Ev.evP, Ev.lNil, Ev.lCons, Ev.consL, Ev.fTup, Ev.fLst, Ev.fBi, Ev.fCall, Ev.fIsi, Ev.fM, Ev.iVal, Ev.iRng1, Ev.iRng2, Ev.iZip, Ev.addD, Ev.subD, Ev.mulD, Ev.divD, Ev.modD, Ev.op, Ev.cmpI, Ev.pLt, Ev.pLe, Ev.pGt, Ev.pGe, Ev.neD, Ev.isN, Ev.isnD, Ev.lenD, Ev.intD, Ev.absD, Ev.tupD, Ev.lstD, Ev.Tn.has, Ev.ixD, Ev.itemsD, Ev.rngF1, Ev.rngF2, List.getElem?_cons_zero, List.getElem?_cons_succ, List.set_cons_zero, List.set_cons_succ, List.map_cons, List.map_nil, List.length_cons, List.length_nil, List.replicate, List.append_nil, List.cons_append, List.nil_append, Bool.not_true, Bool.not_false, Bool.false_eq_true, if_true, if_false, reduceIte, ite_true, ite_false, Option.bind_some, Option.bind_none, Option.map_some, Option.map_none]
          exact e
        rw [decide_eq_true h1, decide_eq_true h2, Bool.true_and, Bool.true_and]
        cases q : w.cps.toList.all inAl with
        | true => rw [q] at e2; exact ⟨_, seq_nx e2⟩
        | false => rw [q] at e2; exact ⟨_, seq_ret e2⟩
      · have d1 : decide ((1 : Int) ≤ (w.length : Int)) = true := decide_eq_true (by omega)
        have d2 : decide ((w.length : Int) ≤ 8) = false := decide_eq_false (by omega)
        rw [decide_eq_false h2, Bool.and_false, Bool.false_and]
        exact ⟨[some (.str w), none], seq_ret (by simp only [Ev.defF, Ev.startE, Ev.outR, Ev.sSeq, Ev.seqO, Ev.sSet, Ev.sIf, Ev.sFor, Ev.sRet, Ev.sRetOw, Ev.sNx, Ev.sApp, Ev.appO, Ev.lstAt, Ev.sFrz, Ev.unsO, Ev.bndS, Ev.bndSB, Ev.bndSL, Ev.bnd, Ev.bndB, Ev.bndL, Ev.bndI, Ev.okO, Ev.okB, Ev.okL, Ev.evVar, Ev.fC, Ev.fBin, Ev.fCmp, Ev.fNot, Ev.fAnd, Ev.fOr, Ev.fIf, Ev.fChain, Ev.fIx, Ev.fSl, Ev.evP, Ev.lNil, Ev.lCons, Ev.consL, Ev.fTup, Ev.fLst, Ev.fBi, Ev.fCall, Ev.fIsi, Ev.fM, Ev.iVal, Ev.iRng1, Ev.iRng2, Ev.iZip, Ev.addD, Ev.subD, Ev.mulD, Ev.divD, Ev.modD, Ev.op, Ev.cmpI, Ev.pLt, Ev.pLe, Ev.pGt, Ev.pGe, Ev.neD, Ev.isN, Ev.isnD, Ev.lenD, Ev.intD, Ev.absD, Ev.tupD, Ev.lstD, Ev.Tn.has, Ev.ixD, Ev.itemsD, Ev.rngF1, Ev.rngF2, List.getElem?_cons_zero, List.getElem?_cons_succ, List.set_cons_zero, List.set_cons_succ, List.map_cons, List.map_nil, List.length_cons, List.length_nil, List.replicate, List.append_nil, List.cons_append, List.nil_append, Bool.not_true, Bool.not_false, Bool.false_eq_true, if_true, if_false, reduceIte, ite_true, ite_false, Option.bind_some, Option.bind_none, Option.map_some, Option.map_none, h, d1, d2])⟩
    · have d1 : decide ((1 : Int) ≤ (w.length : Int)) = false := decide_eq_false (by omega)
      rw [decide_eq_false h1, Bool.false_and, Bool.false_and]
      exact ⟨[some (.str w), none], seq_ret (by simp only [Ev.defF, Ev.startE, Ev.outR, Ev.sSeq, Ev.seqO, Ev.sSet, Ev.sIf, Ev.sFor, Ev.sRet, Ev.sRetOw, Ev.sNx, Ev.sApp, Ev.appO, Ev.lstAt, Ev.sFrz, Ev.unsO, Ev.bndS, Ev.bndSB, Ev.bndSL, Ev.bnd, Ev.bndB, Ev.bndL, Ev.bndI, Ev.okO, Ev.okB, Ev.okL, Ev.evVar, Ev.fC, Ev.fBin, Ev.fCmp, Ev.fNot, Ev.fAnd, Ev.fOr, Ev.fIf, Ev.fChain, Ev.fIx, Ev.fSl, Ev.evP, Ev.lNil, Ev.lCons, Ev.consL, Ev.fTup, Ev.fLst, Ev.fBi, Ev.fCall, Ev.fIsi, Ev.fM, Ev.iVal, Ev.iRng1, Ev.iRng2, Ev.iZip, Ev.addD, Ev.subD, Ev.mulD, Ev.divD, Ev.modD, Ev.op, Ev.cmpI, Ev.pLt, Ev.pLe, Ev.pGt, Ev.pGe, Ev.neD, Ev.isN, Ev.isnD, Ev.lenD, Ev.intD, Ev.absD, Ev.tupD, Ev.lstD, Ev.Tn.has, Ev.ixD, Ev.itemsD, Ev.rngF1, Ev.rngF2, List.getElem?_cons_zero, List.getElem?_cons_succ, List.set_cons_zero, List.set_cons_succ, List.map_cons, List.map_nil, List.length_cons, List.length_nil, List.replicate, List.append_nil, List.cons_append, List.nil_append, Bool.not_true, Bool.not_false, Bool.false_eq_true, if_true, if_false, reduceIte, ite_true, ite_false, Option.bind_some, Option.bind_none, Option.map_some, Option.map_none, h, d1])⟩
  obtain ⟨δ, e⟩ := key
  rw [show startE 2 [D.str w] = [some (.str w), none] from rfl, e]
  rfl
/-! ### due -/
theorem lc_filter (w : Str) (ol : D) : ∀ l : List Nat, lcGo (.nm 2) (some (fCmp (inN false) (evVar 2) (evVar 1))) (evVar 2) [some ol, some (.str al), none] (l.map chr) = some ((l.filter inAl).map chr)
  | [] => rfl
  | q :: l => by
    rw [List.map_cons]
    by_cases h : q ∈ al.cps.toList
    · have hq : inAl q = true := decide_eq_true h
      rw [List.filter_cons_of_pos hq]
      simp only [lcGo, bindT, tstD, eltD, lc_filter w ol l, Ev.defF, Ev.startE, Ev.outR, Ev.sSeq, Ev.seqO, Ev.sSet, Ev.sIf, Ev.sFor, Ev.sRet, Ev.sRetOw, Ev.sNx, Ev.sApp, Ev.appO, Ev.lstAt, Ev.sFrz, Ev.unsO, Ev.bndS, Ev.bndSB, Ev.bndSL, Ev.bnd, Ev.bndB, Ev.bndL, Ev.bndI, Ev.okO, Ev.okB, Ev.okL, Ev.evVar, Ev.fC, Ev.fBin, Ev.fCmp, Ev.fNot, Ev.fAnd, Ev.fOr, Ev.fIf, Ev.fChain, Ev.fIx, Ev.fSl, Ev.evP, Ev.lNil, Ev.lCons, Ev.consL, Ev.fTup, Ev.fLst, Ev.fBi, Ev.fCall, Ev.fIsi, Ev.fM, Ev.iVal, Ev.iRng1, Ev.iRng2, Ev.iZip, Ev.addD, Ev.subD, Ev.mulD, Ev.divD, Ev.modD, Ev.op, Ev.cmpI, Ev.pLt, Ev.pLe, Ev.pGt, Ev.pGe, Ev.neD, Ev.isN, Ev.isnD, Ev.lenD, Ev.intD, Ev.absD, Ev.tupD, Ev.lstD, Ev.Tn.has, Ev.ixD, Ev.itemsD, Ev.rngF1, Ev.rngF2, List.getElem?_cons_zero, List.getElem?_cons_succ, List.set_cons_zero, List.set_cons_succ, List.map_cons, List.map_nil, List.length_cons, List.length_nil, List.replicate, List.append_nil, List.cons_append, List.nil_append, Bool.not_true, Bool.not_false, Bool.false_eq_true, if_true, if_false, reduceIte, ite_true, ite_false, Option.bind_some, Option.bind_none, Option.map_some, Option.map_none, in_chr, hq]
    · have hq : inAl q = false := decide_eq_false h
      rw [List.filter_cons_of_neg (by rw [hq]; decide)]
      simp only [lcGo, bindT, tstD, eltD, lc_filter w ol l, Ev.defF, Ev.startE, Ev.outR, Ev.sSeq, Ev.seqO, Ev.sSet, Ev.sIf, Ev.sFor, Ev.sRet, Ev.sRetOw, Ev.sNx, Ev.sApp, Ev.appO, Ev.lstAt, Ev.sFrz, Ev.unsO, Ev.bndS, Ev.bndSB, Ev.bndSL, Ev.bnd, Ev.bndB, Ev.bndL, Ev.bndI, Ev.okO, Ev.okB, Ev.okL, Ev.evVar, Ev.fC, Ev.fBin, Ev.fCmp, Ev.fNot, Ev.fAnd, Ev.fOr, Ev.fIf, Ev.fChain, Ev.fIx, Ev.fSl, Ev.evP, Ev.lNil, Ev.lCons, Ev.consL, Ev.fTup, Ev.fLst, Ev.fBi, Ev.fCall, Ev.fIsi, Ev.fM, Ev.iVal, Ev.iRng1, Ev.iRng2, Ev.iZip, Ev.addD, Ev.subD, Ev.mulD, Ev.divD, Ev.modD, Ev.op, Ev.cmpI, Ev.pLt, Ev.pLe, Ev.pGt, Ev.pGe, Ev.neD, Ev.isN, Ev.isnD, Ev.lenD, Ev.intD, Ev.absD, Ev.tupD, Ev.lstD, Ev.Tn.has, Ev.ixD, Ev.itemsD, Ev.rngF1, Ev.rngF2, List.getElem?_cons_zero, List.getElem?_cons_succ, List.set_cons_zero, List.set_cons_succ, List.map_cons, List.map_nil, List.length_cons, List.length_nil, List.replicate, List.append_nil, List.cons_append, List.nil_append, Bool.not_true, Bool.not_false, Bool.false_eq_true, if_true, if_false, reduceIte, ite_true, ite_false, Option.bind_some, Option.bind_none, Option.map_some, Option.map_none, in_chr, hq]
theorem len_toList (w : Str) : w.cps.toList.length = w.length := rfl
theorem count_all (w : Str) : decide (((w.cps.toList.filter inAl).length : Int) = (w.length : Int)) = w.cps.toList.all inAl := by
  rw [Bool.eq_iff_iff, decide_eq_true_iff, List.all_eq_true, Int.natCast_inj, ← len_toList, List.length_filter_eq_length_iff]
theorem eq_int (i j : Int) : eqD (.int i) (.int j) = some (decide (i = j)) := by unfold eqD; rw [if_pos (by simp [okD])]; rfl
theorem eq_bl (i j : Bool) : eqD (.bl i) (.bl j) = some (i == j) := by unfold eqD; rw [if_pos (by simp [okD])]; rfl
theorem due_eq (w : Str) (h : w.length < sizeLine) : φ_law_due [.str w] = some (.ok (.bl (nameB w))) := by
  unfold φ_law_due defF
  have hl := Nat.le_of_lt h
  have key : g_law_due [some (.str w), none, none] = some (.ret (.bl (nameB w)) [some (.str w), some (.str al), none]) := by
    unfold g_law_due nameB
    rw [seq_nx (δ' := [some (.str w), some (.str al), none]) rfl]
    have hz : (w.cps.toList.map chr).length < sizeLine := by rw [List.length_map]; exact h
    have el : lcF (.nm 2) (some (fCmp (inN false) (evVar 2) (evVar 1))) (evVar 2) (iVal (evVar 0)) [2] [some (.str w), some (.str al), none] = some (.ok (.lst ((w.cps.toList.filter inAl).map chr))) := by
      unfold lcF lcD
      simp only [Ev.defF, Ev.startE, Ev.outR, Ev.sSeq, Ev.seqO, Ev.sSet, Ev.sIf, Ev.sFor, Ev.sRet, Ev.sRetOw, Ev.sNx, Ev.sApp, Ev.appO, Ev.lstAt, Ev.sFrz, Ev.unsO, Ev.bndS, Ev.bndSB, Ev.bndSL, Ev.bnd, Ev.bndB, Ev.bndL, Ev.bndI, Ev.okO, Ev.okB, Ev.okL, Ev.evVar, Ev.fC, Ev.fBin, Ev.fCmp, Ev.fNot, Ev.fAnd, Ev.fOr, Ev.fIf, Ev.fChain, Ev.fIx, Ev.fSl, Ev.evP, Ev.lNil, Ev.lCons, Ev.consL, Ev.fTup, Ev.fLst, Ev.fBi, Ev.fCall, Ev.fIsi, Ev.fM, Ev.iVal, Ev.iRng1, Ev.iRng2, Ev.iZip, Ev.addD, Ev.subD, Ev.mulD, Ev.divD, Ev.modD, Ev.op, Ev.cmpI, Ev.pLt, Ev.pLe, Ev.pGt, Ev.pGe, Ev.neD, Ev.isN, Ev.isnD, Ev.lenD, Ev.intD, Ev.absD, Ev.tupD, Ev.lstD, Ev.Tn.has, Ev.ixD, Ev.itemsD, Ev.rngF1, Ev.rngF2, List.getElem?_cons_zero, List.getElem?_cons_succ, List.set_cons_zero, List.set_cons_succ, List.map_cons, List.map_nil, List.length_cons, List.length_nil, List.replicate, List.append_nil, List.cons_append, List.nil_append, Bool.not_true, Bool.not_false, Bool.false_eq_true, if_true, if_false, reduceIte, ite_true, ite_false, Option.bind_some, Option.bind_none, Option.map_some, Option.map_none, unsetL, lc_filter w, hz]
    by_cases h1 : 1 ≤ w.length
    · by_cases h2 : w.length ≤ 8
      · have d1 : decide ((0 : Int) < (w.length : Int)) = true := decide_eq_true (by omega)
        have d2 : decide ((w.length : Int) < 9) = true := decide_eq_true (by omega)
        refine seq_ret ?_
        simp only [Ev.defF, Ev.startE, Ev.outR, Ev.sSeq, Ev.seqO, Ev.sSet, Ev.sIf, Ev.sFor, Ev.sRet, Ev.sRetOw, Ev.sNx, Ev.sApp, Ev.appO, Ev.lstAt, Ev.sFrz, Ev.unsO, Ev.bndS, Ev.bndSB, Ev.bndSL, Ev.bnd, Ev.bndB, Ev.bndL, Ev.bndI, Ev.okO, Ev.okB, Ev.okL, Ev.evVar, Ev.fC, Ev.fBin, Ev.fCmp, Ev.fNot, Ev.fAnd, Ev.fOr, Ev.fIf, Ev.fChain, Ev.fIx, Ev.fSl, Ev.evP, Ev.lNil, Ev.lCons, Ev.consL, Ev.fTup, Ev.fLst, Ev.fBi, Ev.fCall, Ev.fIsi, Ev.fM, Ev.iVal, Ev.iRng1, Ev.iRng2, Ev.iZip, Ev.addD, Ev.subD, Ev.mulD, Ev.divD, Ev.modD, Ev.op, Ev.cmpI, Ev.pLt, Ev.pLe, Ev.pGt, Ev.pGe, Ev.neD, Ev.isN, Ev.isnD, Ev.lenD, Ev.intD, Ev.absD, Ev.tupD, Ev.lstD, Ev.Tn.has, Ev.ixD, Ev.itemsD, Ev.rngF1, Ev.rngF2, List.getElem?_cons_zero, List.getElem?_cons_succ, List.set_cons_zero, List.set_cons_succ, List.map_cons, List.map_nil, List.length_cons, List.length_nil, List.replicate, List.append_nil, List.cons_append, List.nil_append, Bool.not_true, Bool.not_false, Bool.false_eq_true, if_true, if_false, reduceIte, ite_true, ite_false, Option.bind_some, Option.bind_none, Option.map_some, Option.map_none, hl, d1, d2, el, eq_int, List.length_map]
        rw [decide_eq_true h1, decide_eq_true h2, Bool.true_and, Bool.true_and]
        rw [count_all]
      · have d1 : decide ((0 : Int) < (w.length : Int)) = true := decide_eq_true (by omega)
        have d2 : decide ((w.length : Int) < 9) = false := decide_eq_false (by omega)
        rw [decide_eq_false h2, Bool.and_false, Bool.false_and]
        exact seq_ret (by simp only [Ev.defF, Ev.startE, Ev.outR, Ev.sSeq, Ev.seqO, Ev.sSet, Ev.sIf, Ev.sFor, Ev.sRet, Ev.sRetOw, Ev.sNx, Ev.sApp, Ev.appO, Ev.lstAt, Ev.sFrz, Ev.unsO, Ev.bndS, Ev.bndSB, Ev.bndSL, Ev.bnd, Ev.bndB, Ev.bndL, Ev.bndI, Ev.okO, Ev.okB, Ev.okL, Ev.evVar, Ev.fC, Ev.fBin, Ev.fCmp, Ev.fNot, Ev.fAnd, Ev.fOr, Ev.fIf, Ev.fChain, Ev.fIx, Ev.fSl, Ev.evP, Ev.lNil, Ev.lCons, Ev.consL, Ev.fTup, Ev.fLst, Ev.fBi, Ev.fCall, Ev.fIsi, Ev.fM, Ev.iVal, Ev.iRng1, Ev.iRng2, Ev.iZip, Ev.addD, Ev.subD, Ev.mulD, Ev.divD, Ev.modD, Ev.op, Ev.cmpI, Ev.pLt, Ev.pLe, Ev.pGt, Ev.pGe, Ev.neD, Ev.isN, Ev.isnD, Ev.lenD, Ev.intD, Ev.absD, Ev.tupD, Ev.lstD, Ev.Tn.has, Ev.ixD, Ev.itemsD, Ev.rngF1, Ev.rngF2, List.getElem?_cons_zero, List.getElem?_cons_succ, List.set_cons_zero, List.set_cons_succ, List.map_cons, List.map_nil, List.length_cons, List.length_nil, List.replicate, List.append_nil, List.cons_append, List.nil_append, Bool.not_true, Bool.not_false, Bool.false_eq_true, if_true, if_false, reduceIte, ite_true, ite_false, Option.bind_some, Option.bind_none, Option.map_some, Option.map_none, hl, d1, d2])
    · have d1 : decide ((0 : Int) < (w.length : Int)) = false := decide_eq_false (by omega)
      rw [decide_eq_false h1, Bool.false_and, Bool.false_and]
      exact seq_ret (by simp only [Ev.defF, Ev.startE, Ev.outR, Ev.sSeq, Ev.seqO, Ev.sSet, Ev.sIf, Ev.sFor, Ev.sRet, Ev.sRetOw, Ev.sNx, Ev.sApp, Ev.appO, Ev.lstAt, Ev.sFrz, Ev.unsO, Ev.bndS, Ev.bndSB, Ev.bndSL, Ev.bnd, Ev.bndB, Ev.bndL, Ev.bndI, Ev.okO, Ev.okB, Ev.okL, Ev.evVar, Ev.fC, Ev.fBin, Ev.fCmp, Ev.fNot, Ev.fAnd, Ev.fOr, Ev.fIf, Ev.fChain, Ev.fIx, Ev.fSl, Ev.evP, Ev.lNil, Ev.lCons, Ev.consL, Ev.fTup, Ev.fLst, Ev.fBi, Ev.fCall, Ev.fIsi, Ev.fM, Ev.iVal, Ev.iRng1, Ev.iRng2, Ev.iZip, Ev.addD, Ev.subD, Ev.mulD, Ev.divD, Ev.modD, Ev.op, Ev.cmpI, Ev.pLt, Ev.pLe, Ev.pGt, Ev.pGe, Ev.neD, Ev.isN, Ev.isnD, Ev.lenD, Ev.intD, Ev.absD, Ev.tupD, Ev.lstD, Ev.Tn.has, Ev.ixD, Ev.itemsD, Ev.rngF1, Ev.rngF2, List.getElem?_cons_zero, List.getElem?_cons_succ, List.set_cons_zero, List.set_cons_succ, List.map_cons, List.map_nil, List.length_cons, List.length_nil, List.replicate, List.append_nil, List.cons_append, List.nil_append, Bool.not_true, Bool.not_false, Bool.false_eq_true, if_true, if_false, reduceIte, ite_true, ite_false, Option.bind_some, Option.bind_none, Option.map_some, Option.map_none, hl, d1])
  rw [show startE 3 [D.str w] = [some (.str w), none, none] from rfl, key]
  rfl
theorem leaf_bl (i j : Bool) : φ_law_leaf [.bl i, .bl j] = some (.ok (.bl (i == j))) := by
  unfold φ_law_leaf g_law_leaf
  simp only [Ev.defF, Ev.startE, Ev.outR, Ev.sSeq, Ev.seqO, Ev.sSet, Ev.sIf, Ev.sFor, Ev.sRet, Ev.sRetOw, Ev.sNx, Ev.sApp, Ev.appO, Ev.lstAt, Ev.sFrz, Ev.unsO, Ev.bndS, Ev.bndSB, Ev.bndSL, Ev.bnd, Ev.bndB, Ev.bndL, Ev.bndI, Ev.okO, Ev.okB, Ev.okL, Ev.evVar, Ev.fC, Ev.fBin, Ev.fCmp, Ev.fNot, Ev.fAnd, Ev.fOr, Ev.fIf, Ev.fChain, Ev.fIx, Ev.fSl, Ev.evP, Ev.lNil, Ev.lCons, Ev.consL, Ev.fTup, Ev.fLst, Ev.fBi, Ev.fCall, Ev.fIsi, Ev.fM, Ev.iVal, Ev.iRng1, Ev.iRng2, Ev.iZip, Ev.addD, Ev.subD, Ev.mulD, Ev.divD, Ev.modD, Ev.op, Ev.cmpI, Ev.pLt, Ev.pLe, Ev.pGt, Ev.pGe, Ev.neD, Ev.isN, Ev.isnD, Ev.lenD, Ev.intD, Ev.absD, Ev.tupD, Ev.lstD, Ev.Tn.has, Ev.ixD, Ev.itemsD, Ev.rngF1, Ev.rngF2, List.getElem?_cons_zero, List.getElem?_cons_succ, List.set_cons_zero, List.set_cons_succ, List.map_cons, List.map_nil, List.length_cons, List.length_nil, List.replicate, List.append_nil, List.cons_append, List.nil_append, Bool.not_true, Bool.not_false, Bool.false_eq_true, if_true, if_false, reduceIte, ite_true, ite_false, Option.bind_some, Option.bind_none, Option.map_some, Option.map_none, eq_bl]
theorem leaf_int (i j : Int) : φ_law_leaf [.int i, .int j] = some (.ok (.bl (decide (i = j)))) := by
  unfold φ_law_leaf g_law_leaf
  simp only [Ev.defF, Ev.startE, Ev.outR, Ev.sSeq, Ev.seqO, Ev.sSet, Ev.sIf, Ev.sFor, Ev.sRet, Ev.sRetOw, Ev.sNx, Ev.sApp, Ev.appO, Ev.lstAt, Ev.sFrz, Ev.unsO, Ev.bndS, Ev.bndSB, Ev.bndSL, Ev.bnd, Ev.bndB, Ev.bndL, Ev.bndI, Ev.okO, Ev.okB, Ev.okL, Ev.evVar, Ev.fC, Ev.fBin, Ev.fCmp, Ev.fNot, Ev.fAnd, Ev.fOr, Ev.fIf, Ev.fChain, Ev.fIx, Ev.fSl, Ev.evP, Ev.lNil, Ev.lCons, Ev.consL, Ev.fTup, Ev.fLst, Ev.fBi, Ev.fCall, Ev.fIsi, Ev.fM, Ev.iVal, Ev.iRng1, Ev.iRng2, Ev.iZip, Ev.addD, Ev.subD, Ev.mulD, Ev.divD, Ev.modD, Ev.op, Ev.cmpI, Ev.pLt, Ev.pLe, Ev.pGt, Ev.pGe, Ev.neD, Ev.isN, Ev.isnD, Ev.lenD, Ev.intD, Ev.absD, Ev.tupD, Ev.lstD, Ev.Tn.has, Ev.ixD, Ev.itemsD, Ev.rngF1, Ev.rngF2, List.getElem?_cons_zero, List.getElem?_cons_succ, List.set_cons_zero, List.set_cons_succ, List.map_cons, List.map_nil, List.length_cons, List.length_nil, List.replicate, List.append_nil, List.cons_append, List.nil_append, Bool.not_true, Bool.not_false, Bool.false_eq_true, if_true, if_false, reduceIte, ite_true, ite_false, Option.bind_some, Option.bind_none, Option.map_some, Option.map_none, eq_int]
end Q

set_option maxHeartbeats 4000000
namespace Q
open PySem PySem.Spec PyProof.Rows L2 Ev Z
theorem len_app (a b : Str) : (a ++ b).length = a.length + b.length := by
  show (a.cps ++ b.cps).size = _
  rw [Array.size_append]; rfl
theorem strs_chr : ∀ qs : List Nat, strsD (qs.map chr) = some (qs.map fun q => (⟨#[q]⟩ : Str))
  | [] => rfl
  | q :: qs => by rw [List.map_cons]; simp only [strsD, strs_chr qs, Option.map_some, List.map_cons]
theorem join_len : ∀ qs : List Nat, (Str.join ("" : Str) (qs.map fun q => (⟨#[q]⟩ : Str))).length = qs.length
  | [] => rfl
  | [q] => rfl
  | q :: r :: qs => by
    show ((⟨#[q]⟩ : Str) ++ ("" : Str) ++ Str.join ("" : Str) ((r :: qs).map fun q => (⟨#[q]⟩ : Str))).length = _
    rw [len_app, len_app, join_len (r :: qs)]
    show 1 + 0 + _ = _
    simp only [List.length_cons]; omega
theorem sum_ones : ∀ qs : List Nat, ((qs.map fun q => (⟨#[q]⟩ : Str)).map (·.length)).sum = qs.length
  | [] => rfl
  | q :: qs => by
    rw [List.map_cons, List.map_cons, List.sum_cons, sum_ones qs, List.length_cons]
    show 1 + _ = _
    omega
theorem join_chr {qs : List Nat} (h : qs.length ≤ 1000) : ∃ w : Str, w.length = qs.length ∧ joinD (.str "") [.lst (qs.map chr)] = some (.str w) := by
  refine ⟨Txt.join "" (qs.map fun q => (⟨#[q]⟩ : Str)), by rw [TL.join_eq]; exact join_len qs, ?_⟩
  simp only [joinD, joinGo, strs_chr, Option.bind_some]
  rw [if_pos]
  rw [sum_ones]
  show _ + _ * 0 ≤ _
  omega
theorem lcGo_chr {elt : EF} {δ : Ev.Env} {i : Nat} (h : ∀ x : Int, ∃ q, elt (δ.set i (some (.int x))) = some (.ok (chr q))) : ∀ xs : List Int, ∃ qs : List Nat, qs.length = xs.length ∧ lcGo (.nm i) none elt δ (xs.map D.int) = some (qs.map chr)
  | [] => ⟨[], rfl, rfl⟩
  | x :: xs => by
    obtain ⟨q, e⟩ := h x
    obtain ⟨qs, hl, e2⟩ := lcGo_chr h xs
    refine ⟨q :: qs, by rw [List.length_cons, List.length_cons, hl], ?_⟩
    rw [List.map_cons]
    simp only [lcGo, bindT, tstD, eltD, e, e2, Option.bind_some, if_true, Option.map_some, List.map_cons]
theorem cutG_map (l : List Int) (lo hi : Option Int) : cutG (l.map D.int) lo hi = (cutG l lo hi).map D.int := by
  unfold cutG
  rw [List.length_map, List.map_take, List.map_drop]
theorem cutG_len {α : Type} (l : List α) (lo hi : Option Int) : (cutG l lo hi).length ≤ l.length := by
  unfold cutG
  rw [List.length_take, List.length_drop]; omega
theorem cutS_len (z : Str) (lo hi : Option Int) : (cutS z lo hi).length ≤ z.length := by
  unfold cutS
  show (List.toArray _).size ≤ _
  rw [List.size_toArray, List.length_take, List.length_drop]
  have := len_toList z
  omega
theorem pick {z : Str} (h0 : 0 < z.length) (h1 : z.length ≤ sizeLine) (i : Int) : ∃ q, ixD (.str z) (.int (i % (z.length : Int))) = some (chr q) := by
  obtain ⟨q, e, _⟩ := atI_in (xs := z.cps.toList) (i := i % (z.length : Int)) (Int.emod_nonneg _ (by omega)) (by have := Int.emod_lt_of_pos i (show (0 : Int) < (z.length : Int) by omega); rw [len_toList]; omega)
  exact ⟨q, by simp only [ixD, h1, if_true, e, Option.map_some]⟩
abbrev sx : Str := " !\"#$&'()*+,-./0123456789:;<=>?@ABCDEFGHIJKLMNOPQRSTUVWXYZ[\\]^_`{|}~\n"
def sgn : Str := al ++ sx
theorem al_len : al.length = 26 := by kernel_rfl
theorem sgn_len : sgn.length = 95 := by kernel_rfl
theorem add_sgn : addD (.str al) (.str sx) = some (.str sgn) := by
  simp only [addD]
  rw [if_pos (by rw [al_len, show sx.length = 69 by kernel_rfl]; exact Nat.le_of_lt (lt_sL (by decide)))]
  rfl
theorem sm26 : (26 : Nat) ≤ sizeLine := Nat.le_of_lt (lt_sL (by decide))
def wC (z : Nat) (m : EF) : EF := fM "str" joinD (fC (.str "")) (lCons (lcF (.nm 7) none (fIx (evVar z) (fBin modD (fBi intD (lCons (evVar 7) lNil)) m)) (iVal (fSl (evVar 0) (some (fC (.int 4))) (some (fBin addD (fC (.int 4)) (evVar 3))))) [7]) lNil)
theorem wC_ok {l : List Int} (hl : l.length = 14) {a b : Str} {size man : Int} {o5 o6 : Option D} {z : Nat} {m : EF} {k : Str} (k0 : 0 < k.length) (k1 : k.length ≤ sizeLine)
    (hz : ∀ δ : Ev.Env, δ[1]? = some (some (.str a)) → δ[2]? = some (some (.str b)) → δ[z]? = some (some (.str k)) ∧ m δ = some (.ok (.int k.length))) :
    ∃ w : Str, w.length ≤ 14 ∧ wC z m [some (nd l), some (.str a), some (.str b), some (.int size), some (.int man), o5, o6, none] = some (.ok (.str w)) := by
  generalize hδ : ([some (nd l), some (.str a), some (.str b), some (.int size), some (.int man), o5, o6, none] : Ev.Env) = δ
  obtain ⟨qs, hq, e⟩ := lcGo_chr (i := 7) (δ := δ) (elt := fIx (evVar z) (fBin modD (fBi Ev.intD (lCons (evVar 7) lNil)) m)) (fun x => by
    obtain ⟨q, e⟩ := pick k0 k1 x
    obtain ⟨z1, z2⟩ := hz (δ.set 7 (some (.int x))) (by subst hδ; rfl) (by subst hδ; rfl)
    refine ⟨q, ?_⟩
    have e7 : (δ.set 7 (some (.int x)))[7]? = some (some (.int x)) := by subst hδ; rfl
    have kp : decide ((0 : Int) < (k.length : Int)) = true := decide_eq_true (by omega)
    simp only [fIx, fBin, fBi, lCons, lNil, consL, bndL, bnd, evVar, okO, z1, z2, e7, Ev.intD, modD, kp, if_true, e]) (cutG l (some 4) (some (4 + size)))
  obtain ⟨w, hw, ew⟩ := join_chr (qs := qs) (by have := cutG_len l (some 4) (some (4 + size)); omega)
  refine ⟨w, by have := cutG_len l (some 4) (some (4 + size)); omega, ?_⟩
  have el : lcF (.nm 7) none (fIx (evVar z) (fBin modD (fBi Ev.intD (lCons (evVar 7) lNil)) m)) (iVal (fSl (evVar 0) (some (fC (.int 4))) (some (fBin addD (fC (.int 4)) (evVar 3))))) [7] δ = some (.ok (.lst (qs.map chr))) := by
    have e0 : iVal (fSl (evVar 0) (some (fC (.int 4))) (some (fBin addD (fC (.int 4)) (evVar 3)))) δ = some (.ok ((cutG l (some 4) (some (4 + size))).map D.int)) := by
      subst hδ
      simp only [Ev.defF, Ev.startE, Ev.outR, Ev.sSeq, Ev.seqO, Ev.sSet, Ev.sIf, Ev.sFor, Ev.sRet, Ev.sRetOw, Ev.sNx, Ev.sApp, Ev.appO, Ev.lstAt, Ev.sFrz, Ev.unsO, Ev.bndS, Ev.bndSB, Ev.bndSL, Ev.bnd, Ev.bndB, Ev.bndL, Ev.bndI, Ev.okO, Ev.okB, Ev.okL, Ev.evVar, Ev.fC, Ev.fBin, Ev.fCmp, Ev.fNot, Ev.fAnd, Ev.fOr, Ev.fIf, Ev.fChain, Ev.fIx, Ev.fSl, Ev.evP, Ev.lNil, Ev.lCons, Ev.consL, Ev.fTup, Ev.fLst, Ev.fBi, Ev.fCall, Ev.fIsi, Ev.fM, Ev.iVal, Ev.iRng1, Ev.iRng2, Ev.iZip, Ev.addD, Ev.subD, Ev.mulD, Ev.divD, Ev.modD, Ev.op, Ev.cmpI, Ev.pLt, Ev.pLe, Ev.pGt, Ev.pGe, Ev.neD, Ev.isN, Ev.isnD, Ev.lenD, Ev.intD, Ev.absD, Ev.tupD, Ev.lstD, Ev.Tn.has, Ev.ixD, Ev.itemsD, Ev.rngF1, Ev.rngF2, List.getElem?_cons_zero, List.getElem?_cons_succ, List.set_cons_zero, List.set_cons_succ, List.map_cons, List.map_nil, List.length_cons, List.length_nil, List.replicate, List.append_nil, List.cons_append, List.nil_append, Bool.not_true, Bool.not_false, Bool.false_eq_true, if_true, if_false, reduceIte, ite_true, ite_false, Option.bind_some, Option.bind_none, Option.map_some, Option.map_none, slD, cutG_map]
    have hu : unsetL δ [7] = δ := by subst hδ; rfl
    have hz : ((cutG l (some 4) (some (4 + size))).map D.int).length < sizeLine := by
      rw [List.length_map]
      exact lt_sL (by have := cutG_len l (some 4) (some (4 + size)); omega)
    unfold lcF lcD
    simp only [bndL, e0, hu, hz, if_true, e, Option.map_some, okO]
  unfold wC
  have ty : tyOk "str" (.str "") = true := by kernel_rfl
  simp only [fM, fC, bnd, ty, if_true, bndL, lCons, consL, el, lNil, ew, okO]
end Q

set_option maxHeartbeats 4000000
namespace Q
open PySem PySem.Spec PyProof.Rows L2 Ev Z
theorem nd_at {l : List Int} {k : Nat} (h : k < l.length) : atI (l.map D.int) (k : Int) = some (.int l[k]) := by
  rw [atI_lit, List.getElem?_map, List.getElem?_eq_getElem h]; rfl
theorem sub_pos11 : decide ((0 : Int) < 11) = true := rfl
theorem word_ok (l : List Int) (hl : l.length = 14) : ∃ w : Str, w.length ≤ 40 ∧ φ_law_word [nd l] = some (.ok (.str w)) := by
  have a0 : atI (l.map D.int) 0 = some (.int l[0]) := nd_at (k := 0) (by omega)
  have a1 : atI (l.map D.int) 1 = some (.int l[1]) := nd_at (k := 1) (by omega)
  have a2 : atI (l.map D.int) 2 = some (.int l[2]) := nd_at (k := 2) (by omega)
  have a3 : atI (l.map D.int) 3 = some (.int l[3]) := nd_at (k := 3) (by omega)
  generalize l[0] = x0 at a0
  generalize l[1] = x1 at a1
  generalize l[2] = x2 at a2
  generalize l[3] = x3 at a3
  have s0 : 0 ≤ x0 % 11 := Int.emod_nonneg _ (by decide)
  generalize hs : x0 % 11 = size at s0
  generalize hm : x1 % 4 = man
  have sg1 : sgn.length ≤ sizeLine := by rw [sgn_len]; exact Nat.le_of_lt (lt_sL (by decide))
  have sg0 : 0 < sgn.length := by rw [sgn_len]; decide
  have lenS : ∀ δ : Ev.Env, δ[2]? = some (some (.str sgn)) → fBi lenD (lCons (evVar 2) lNil) δ = some (.ok (.int sgn.length)) := fun δ h => by
    simp only [fBi, lCons, lNil, consL, bndL, evVar, h, lenD, sg1, if_true, okO]
  obtain ⟨w1, hw1, e1⟩ := wC_ok hl (a := al) (b := sgn) (size := size) (man := man) (o5 := none) (o6 := none) (z := 1) (m := fC (.int 26)) (k := al) (by rw [al_len]; decide) (by rw [al_len]; exact sm26)
    (fun δ h1 h2 => ⟨h1, by rw [al_len]; rfl⟩)
  obtain ⟨w2, hw2, e2⟩ := wC_ok hl (a := al) (b := sgn) (size := size) (man := man) (o5 := some (.str w1)) (o6 := none) (z := 2) (m := fBi lenD (lCons (evVar 2) lNil)) (k := sgn) sg0 sg1
    (fun δ h1 h2 => ⟨h2, lenS δ h2⟩)
  have st6 : ∃ w : Str, w.length ≤ 14 ∧ (sIf (fCmp (eqD) (evVar 4) (fC (.int 3))) (sSeq (sSet 5 (wC 2 (fBi lenD (lCons (evVar 2) lNil)))) sNx) sNx) [some (nd l), some (.str al), some (.str sgn), some (.int size), some (.int man), some (.str w1), none, none]
      = some (.nx [some (nd l), some (.str al), some (.str sgn), some (.int size), some (.int man), some (.str w), none, none]) := by
    by_cases h3 : man = 3
    · refine ⟨w2, hw2, ?_⟩
      have d3 : decide (man = 3) = true := decide_eq_true h3
      simp only [sIf, fCmp, bnd, evVar, fC, List.getElem?_cons_succ, List.getElem?_cons_zero, eq_int, okB, bndSB, d3, if_true, sSeq, sSet, e2, bndS, seqO, sNx, List.set_cons_succ, List.set_cons_zero]
    · refine ⟨w1, hw1, ?_⟩
      have d3 : decide (man = 3) = false := decide_eq_false h3
      simp only [Ev.defF, Ev.startE, Ev.outR, Ev.sSeq, Ev.seqO, Ev.sSet, Ev.sIf, Ev.sFor, Ev.sRet, Ev.sRetOw, Ev.sNx, Ev.sApp, Ev.appO, Ev.lstAt, Ev.sFrz, Ev.unsO, Ev.bndS, Ev.bndSB, Ev.bndSL, Ev.bnd, Ev.bndB, Ev.bndL, Ev.bndI, Ev.okO, Ev.okB, Ev.okL, Ev.evVar, Ev.fC, Ev.fBin, Ev.fCmp, Ev.fNot, Ev.fAnd, Ev.fOr, Ev.fIf, Ev.fChain, Ev.fIx, Ev.fSl, Ev.evP, Ev.lNil, Ev.lCons, Ev.consL, Ev.fTup, Ev.fLst, Ev.fBi, Ev.fCall, Ev.fIsi, Ev.fM, Ev.iVal, Ev.iRng1, Ev.iRng2, Ev.iZip, Ev.addD, Ev.subD, Ev.mulD, Ev.divD, Ev.modD, Ev.op, Ev.cmpI, Ev.pLt, Ev.pLe, Ev.pGt, Ev.pGe, Ev.neD, Ev.isN, Ev.isnD, Ev.lenD, Ev.intD, Ev.absD, Ev.tupD, Ev.lstD, Ev.Tn.has, Ev.ixD, Ev.itemsD, Ev.rngF1, Ev.rngF2, List.getElem?_cons_zero, List.getElem?_cons_succ, List.set_cons_zero, List.set_cons_succ, List.map_cons, List.map_nil, List.length_cons, List.length_nil, List.replicate, List.append_nil, List.cons_append, List.nil_append, Bool.not_true, Bool.not_false, Bool.false_eq_true, if_true, if_false, reduceIte, ite_true, ite_false, Option.bind_some, Option.bind_none, Option.map_some, Option.map_none, eq_int, d3]
  obtain ⟨w, hw, e6⟩ := st6
  have st7 : ∃ (w' : Str) (δ : Ev.Env), w'.length ≤ 40 ∧ (sIf (fCmp (eqD) (evVar 4) (fC (.int 2))) (sSeq (sSet 6 (fBin modD (fBi Ev.intD (lCons (fIx (evVar 0) (fC (.int 2))) lNil)) (fBin addD (evVar 3) (fC (.int 1)))))
      (sSeq (sSet 5 (fBin addD (fBin addD (fSl (evVar 5) none (some (evVar 6))) (fIx (evVar 2) (fBin modD (fBi Ev.intD (lCons (fIx (evVar 0) (fC (.int 3))) lNil)) (fBi lenD (lCons (evVar 2) lNil))))) (fSl (evVar 5) (some (evVar 6)) none))) sNx)) sNx)
      [some (nd l), some (.str al), some (.str sgn), some (.int size), some (.int man), some (.str w), none, none] = some (.nx δ) ∧ δ[5]? = some (some (.str w')) := by
    by_cases h2 : man = 2
    · have d2 : decide (man = 2) = true := decide_eq_true h2
      have ds : decide ((0 : Int) < size + 1) = true := decide_eq_true (by omega)
      obtain ⟨q, eq⟩ := pick sg0 sg1 x3
      simp only [ixD, sg1, if_true] at eq
      have hws : w.length ≤ sizeLine := Nat.le_of_lt (lt_sL (by omega))
      have dg : decide ((0 : Int) < (sgn.length : Int)) = true := decide_eq_true (by omega)
      generalize hc : x2 % (size + 1) = cut
      have c1 := cutS_len w none (some cut)
      have c2 := cutS_len w (some cut) none
      have l1 : (cutS w none (some cut)).length + (⟨#[q]⟩ : Str).length ≤ sizeLine := Nat.le_of_lt (lt_sL (by show _ + 1 ≤ _; omega))
      have l2 : (cutS w none (some cut) ++ (⟨#[q]⟩ : Str)).length + (cutS w (some cut) none).length ≤ sizeLine := Nat.le_of_lt (lt_sL (by rw [len_app]; show _ + 1 + _ ≤ _; omega))
      refine ⟨cutS w none (some cut) ++ (⟨#[q]⟩ : Str) ++ cutS w (some cut) none, [some (nd l), some (.str al), some (.str sgn), some (.int size), some (.int man), some (.str (cutS w none (some cut) ++ (⟨#[q]⟩ : Str) ++ cutS w (some cut) none)), some (.int cut), none], ?_, ?_, rfl⟩
      · rw [len_app, len_app]
        show _ + 1 + _ ≤ _
        omega
      · simp only [Ev.defF, Ev.startE, Ev.outR, Ev.sSeq, Ev.seqO, Ev.sSet, Ev.sIf, Ev.sFor, Ev.sRet, Ev.sRetOw, Ev.sNx, Ev.sApp, Ev.appO, Ev.lstAt, Ev.sFrz, Ev.unsO, Ev.bndS, Ev.bndSB, Ev.bndSL, Ev.bnd, Ev.bndB, Ev.bndL, Ev.bndI, Ev.okO, Ev.okB, Ev.okL, Ev.evVar, Ev.fC, Ev.fBin, Ev.fCmp, Ev.fNot, Ev.fAnd, Ev.fOr, Ev.fIf, Ev.fChain, Ev.fIx, Ev.fSl, Ev.evP, Ev.lNil, Ev.lCons, Ev.consL, Ev.fTup, Ev.fLst, Ev.fBi, Ev.fCall, Ev.fIsi, Ev.fM, Ev.iVal, Ev.iRng1, Ev.iRng2, Ev.iZip, Ev.addD, Ev.subD, Ev.mulD, Ev.divD, Ev.modD, Ev.op, Ev.cmpI, Ev.pLt, Ev.pLe, Ev.pGt, Ev.pGe, Ev.neD, Ev.isN, Ev.isnD, Ev.lenD, Ev.intD, Ev.absD, Ev.tupD, Ev.lstD, Ev.Tn.has, Ev.ixD, Ev.itemsD, Ev.rngF1, Ev.rngF2, List.getElem?_cons_zero, List.getElem?_cons_succ, List.set_cons_zero, List.set_cons_succ, List.map_cons, List.map_nil, List.length_cons, List.length_nil, List.replicate, List.append_nil, List.cons_append, List.nil_append, Bool.not_true, Bool.not_false, Bool.false_eq_true, if_true, if_false, reduceIte, ite_true, ite_false, Option.bind_some, Option.bind_none, Option.map_some, Option.map_none, eq_int, d2, a2, a3, hc, ds, slD, hws, sg1, dg, eq, l1, l2]
    · have d2 : decide (man = 2) = false := decide_eq_false h2
      refine ⟨w, [some (nd l), some (.str al), some (.str sgn), some (.int size), some (.int man), some (.str w), none, none], by omega, ?_, rfl⟩
      simp only [Ev.defF, Ev.startE, Ev.outR, Ev.sSeq, Ev.seqO, Ev.sSet, Ev.sIf, Ev.sFor, Ev.sRet, Ev.sRetOw, Ev.sNx, Ev.sApp, Ev.appO, Ev.lstAt, Ev.sFrz, Ev.unsO, Ev.bndS, Ev.bndSB, Ev.bndSL, Ev.bnd, Ev.bndB, Ev.bndL, Ev.bndI, Ev.okO, Ev.okB, Ev.okL, Ev.evVar, Ev.fC, Ev.fBin, Ev.fCmp, Ev.fNot, Ev.fAnd, Ev.fOr, Ev.fIf, Ev.fChain, Ev.fIx, Ev.fSl, Ev.evP, Ev.lNil, Ev.lCons, Ev.consL, Ev.fTup, Ev.fLst, Ev.fBi, Ev.fCall, Ev.fIsi, Ev.fM, Ev.iVal, Ev.iRng1, Ev.iRng2, Ev.iZip, Ev.addD, Ev.subD, Ev.mulD, Ev.divD, Ev.modD, Ev.op, Ev.cmpI, Ev.pLt, Ev.pLe, Ev.pGt, Ev.pGe, Ev.neD, Ev.isN, Ev.isnD, Ev.lenD, Ev.intD, Ev.absD, Ev.tupD, Ev.lstD, Ev.Tn.has, Ev.ixD, Ev.itemsD, Ev.rngF1, Ev.rngF2, List.getElem?_cons_zero, List.getElem?_cons_succ, List.set_cons_zero, List.set_cons_succ, List.map_cons, List.map_nil, List.length_cons, List.length_nil, List.replicate, List.append_nil, List.cons_append, List.nil_append, Bool.not_true, Bool.not_false, Bool.false_eq_true, if_true, if_false, reduceIte, ite_true, ite_false, Option.bind_some, Option.bind_none, Option.map_some, Option.map_none, eq_int, d2]
  obtain ⟨w', δ, hw', e7, e8⟩ := st7
  refine ⟨w', hw', ?_⟩
  unfold wC at e6
  have key : g_law_word [some (nd l), none, none, none, none, none, none, none] = some (.ret (.str w') δ) := by
    unfold g_law_word
    rw [seq_nx (δ' := [some (nd l), some (.str al), none, none, none, none, none, none]) rfl,
      seq_nx (δ' := [some (nd l), some (.str al), some (.str sgn), none, none, none, none, none]) (by
        have := add_sgn
        simp only [sSet, fBin, bnd, evVar, fC, List.getElem?_cons_succ, List.getElem?_cons_zero, this, okO, bndS, List.set_cons_succ, List.set_cons_zero]),
      seq_nx (δ' := [some (nd l), some (.str al), some (.str sgn), some (.int size), none, none, none, none]) (by simp only [Ev.defF, Ev.startE, Ev.outR, Ev.sSeq, Ev.seqO, Ev.sSet, Ev.sIf, Ev.sFor, Ev.sRet, Ev.sRetOw, Ev.sNx, Ev.sApp, Ev.appO, Ev.lstAt, Ev.sFrz, Ev.unsO, Ev.bndS, Ev.bndSB, Ev.bndSL, Ev.bnd, Ev.bndB, Ev.bndL, Ev.bndI, Ev.okO, Ev.okB, Ev.okL, Ev.evVar, Ev.fC, Ev.fBin, Ev.fCmp, Ev.fNot, Ev.fAnd, Ev.fOr, Ev.fIf, Ev.fChain, Ev.fIx, Ev.fSl, Ev.evP, Ev.lNil, Ev.lCons, Ev.consL, Ev.fTup, Ev.fLst, Ev.fBi, Ev.fCall, Ev.fIsi, Ev.fM, Ev.iVal, Ev.iRng1, Ev.iRng2, Ev.iZip, Ev.addD, Ev.subD, Ev.mulD, Ev.divD, Ev.modD, Ev.op, Ev.cmpI, Ev.pLt, Ev.pLe, Ev.pGt, Ev.pGe, Ev.neD, Ev.isN, Ev.isnD, Ev.lenD, Ev.intD, Ev.absD, Ev.tupD, Ev.lstD, Ev.Tn.has, Ev.ixD, Ev.itemsD, Ev.rngF1, Ev.rngF2, List.getElem?_cons_zero, List.getElem?_cons_succ, List.set_cons_zero, List.set_cons_succ, List.map_cons, List.map_nil, List.length_cons, List.length_nil, List.replicate, List.append_nil, List.cons_append, List.nil_append, Bool.not_true, Bool.not_false, Bool.false_eq_true, if_true, if_false, reduceIte, ite_true, ite_false, Option.bind_some, Option.bind_none, Option.map_some, Option.map_none, a0, hs, sub_pos11]),
      seq_nx (δ' := [some (nd l), some (.str al), some (.str sgn), some (.int size), some (.int man), none, none, none]) (by simp only [Ev.defF, Ev.startE, Ev.outR, Ev.sSeq, Ev.seqO, Ev.sSet, Ev.sIf, Ev.sFor, Ev.sRet, Ev.sRetOw, Ev.sNx, Ev.sApp, Ev.appO, Ev.lstAt, Ev.sFrz, Ev.unsO, Ev.bndS, Ev.bndSB, Ev.bndSL, Ev.bnd, Ev.bndB, Ev.bndL, Ev.bndI, Ev.okO, Ev.okB, Ev.okL, Ev.evVar, Ev.fC, Ev.fBin, Ev.fCmp, Ev.fNot, Ev.fAnd, Ev.fOr, Ev.fIf, Ev.fChain, Ev.fIx, Ev.fSl, Ev.evP, Ev.lNil, Ev.lCons, Ev.consL, Ev.fTup, Ev.fLst, Ev.fBi, Ev.fCall, Ev.fIsi, Ev.fM, Ev.iVal, Ev.iRng1, Ev.iRng2, Ev.iZip, Ev.addD, Ev.subD, Ev.mulD, Ev.divD, Ev.modD, Ev.op, Ev.cmpI, Ev.pLt, Ev.pLe, Ev.pGt, Ev.pGe, Ev.neD, Ev.isN, Ev.isnD, Ev.lenD, Ev.intD, Ev.absD, Ev.tupD, Ev.lstD, Ev.Tn.has, Ev.ixD, Ev.itemsD, Ev.rngF1, Ev.rngF2, List.getElem?_cons_zero, List.getElem?_cons_succ, List.set_cons_zero, List.set_cons_succ, List.map_cons, List.map_nil, List.length_cons, List.length_nil, List.replicate, List.append_nil, List.cons_append, List.nil_append, Bool.not_true, Bool.not_false, Bool.false_eq_true, if_true, if_false, reduceIte, ite_true, ite_false, Option.bind_some, Option.bind_none, Option.map_some, Option.map_none, a1, hm, show decide ((0 : Int) < 4) = true from rfl]),
      seq_nx (δ' := [some (nd l), some (.str al), some (.str sgn), some (.int size), some (.int man), some (.str w1), none, none]) (by
        have e1' : wC 1 (fC (.int 26)) [some (nd l), some (.str al), some (.str sgn), some (.int size), some (.int man), none, none, none] = some (.ok (.str w1)) := e1
        unfold wC at e1'
        simp only [sSet, e1', bndS, List.set_cons_succ, List.set_cons_zero]),
      seq_nx e6, seq_nx e7]
    exact seq_ret (by simp only [sRet, evVar, e8, bndS])
  unfold φ_law_word defF
  rw [show startE 8 [nd l] = [some (nd l), none, none, none, none, none, none, none] from rfl, key]
  rfl
end Q

set_option maxHeartbeats 4000000
namespace Q
open PySem PySem.Spec PyProof.Rows L2 Ev Z
def lawL1 : So := (sSeq (sApp 2 (fCall φ_law_word (lCons (fCall φ_law_numbers (lCons (evVar 0) (lCons (evVar 3) (lCons (fC (.int 14)) lNil)))) lNil))) sNx)
def lawL2 : So := (sSeq (sIf (fNot (fCall φ_law_leaf (lCons (fCall φ_is_name (lCons (evVar 4) lNil)) (lCons (fCall φ_law_due (lCons (evVar 4) lNil)) lNil)))) (sSeq (sRet (fC (.bl false))) sNx) sNx) sNx)
abbrev wd (l : List Str) : D := .lst (l.map D.str)
theorem wd_app (l : List Str) (x : Str) : wd (l ++ [x]) = .lst (l.map D.str ++ [.str x]) := by simp only [wd, List.map_append, List.map_cons, List.map_nil]
theorem leafI (i : Int) : φ_law_leaf [.int i, .int i] = some (.ok (.bl true)) := by rw [leaf_int, decide_eq_true rfl]
theorem law_true (ns : List Int) : φ_law [.lck ns] = some (.ok (.bl true)) := by
  obtain ⟨l0, hl0, hx0, en⟩ := numbers ns 0 1 (by omega) (by omega)
  obtain ⟨x, rfl⟩ : ∃ x, l0 = [x] := by
    cases l0 with
    | nil => cases hl0
    | cons x r => cases r with
      | nil => exact ⟨x, rfl⟩
      | cons _ _ => simp at hl0
  have en' : φ_law_numbers [.lck ns, .int 0, .int 1] = some (.ok (.lst [.int x])) := en
  obtain ⟨q, eq⟩ := pick (z := al) (by rw [al_len]; decide) (by rw [al_len]; exact sm26) x
  rw [al_len] at eq
  simp only [ixD, al_len, sm26, if_true] at eq
  have eq : Option.map (fun q => D.str (⟨#[q]⟩ : Str)) (atI al.cps.toList (x % 26)) = some (chr q) := eq
  let c : Str := ⟨#[q]⟩
  have hc1 : c.length = 1 := rfl
  have m8 : mulD (.str c) (.int 8) = some (.str (Txt.mul c 8)) := by
    simp only [mulD]
    rw [if_pos]
    rw [hc1]; decide
  have m9 : mulD (.str c) (.int 9) = some (.str (Txt.mul c 9)) := by
    simp only [mulD]
    rw [if_pos]
    rw [hc1]; decide
  have len8 : (Txt.mul c 8).length = 8 := by kernel_rfl
  have len9 : (Txt.mul c 9).length = 9 := by kernel_rfl
  have h0 : ∀ w ∈ [("" : Str), c, Txt.mul c 8, Txt.mul c 9], w.length ≤ 40 := by
    intro w hw
    simp only [List.mem_cons, List.not_mem_nil, or_false] at hw
    rcases hw with rfl | rfl | rfl | rfl
    · decide
    · rw [hc1]; decide
    · rw [len8]; decide
    · rw [len9]; decide
  have a0 : atI [D.int x] 0 = some (.int x) := rfl
  obtain ⟨δ3, e3, l, hl, hw, o3, rfl⟩ := forGo_ind (t := .nm 3) (body := lawL1) (fun i δ => ∃ l : List Str, l.length = 4 + i ∧ (∀ w ∈ l, w.length ≤ 40) ∧ ∃ o3, δ = [some (.lck ns), some (chr q), some (wd l), o3, none, none, none, none]) (rngD 0 ((20 : Nat) : Int)) 0
    [some (.lck ns), some (chr q), some (wd ["", c, Txt.mul c 8, Txt.mul c 9]), none, none, none, none, none] ⟨_, rfl, h0, none, rfl⟩ (by
      rintro i d δ hd ⟨l, hl, hw, o3, rfl⟩
      obtain ⟨rfl, hi⟩ := rngD_get hd
      obtain ⟨ln, hln, _, eln⟩ := numbers ns i 14 (by omega) (by omega)
      obtain ⟨w, hwl, ew⟩ := word_ok ln hln
      have g6 : l.length < sizeLine := lt_sL (by omega)
      have eln' : φ_law_numbers [.lck ns, .int (i : Int), .int 14] = some (.ok (nd ln)) := eln
      refine ⟨_, [some (.lck ns), some (chr q), some (wd (l ++ [w])), some (.int i), none, none, none, none], rfl, ?_, l ++ [w], ?_, ?_, _, rfl⟩
      · rw [wd_app]
        unfold lawL1
        simp only [Ev.defF, Ev.startE, Ev.outR, Ev.sSeq, Ev.seqO, Ev.sSet, Ev.sIf, Ev.sFor, Ev.sRet, Ev.sRetOw, Ev.sNx, Ev.sApp, Ev.appO, Ev.lstAt, Ev.sFrz, Ev.unsO, Ev.bndS, Ev.bndSB, Ev.bndSL, Ev.bnd, Ev.bndB, Ev.bndL, Ev.bndI, Ev.okO, Ev.okB, Ev.okL, Ev.evVar, Ev.fC, Ev.fBin, Ev.fCmp, Ev.fNot, Ev.fAnd, Ev.fOr, Ev.fIf, Ev.fChain, Ev.fIx, Ev.fSl, Ev.evP, Ev.lNil, Ev.lCons, Ev.consL, Ev.fTup, Ev.fLst, Ev.fBi, Ev.fCall, Ev.fIsi, Ev.fM, Ev.iVal, Ev.iRng1, Ev.iRng2, Ev.iZip, Ev.addD, Ev.subD, Ev.mulD, Ev.divD, Ev.modD, Ev.op, Ev.cmpI, Ev.pLt, Ev.pLe, Ev.pGt, Ev.pGe, Ev.neD, Ev.isN, Ev.isnD, Ev.lenD, Ev.intD, Ev.absD, Ev.tupD, Ev.lstD, Ev.Tn.has, Ev.ixD, Ev.itemsD, Ev.rngF1, Ev.rngF2, List.getElem?_cons_zero, List.getElem?_cons_succ, List.set_cons_zero, List.set_cons_succ, List.map_cons, List.map_nil, List.length_cons, List.length_nil, List.replicate, List.append_nil, List.cons_append, List.nil_append, Bool.not_true, Bool.not_false, Bool.false_eq_true, if_true, if_false, reduceIte, ite_true, ite_false, Option.bind_some, Option.bind_none, Option.map_some, Option.map_none, eln', ew, g6, List.length_map]
      · rw [List.length_append, List.length_singleton]; omega
      · intro v hv
        rcases List.mem_append.mp hv with r | r
        · exact hw v r
        · rw [List.mem_singleton.mp r]; exact hwl)
  obtain ⟨δ4, e4, o4, rfl⟩ := forGo_ind (t := .nm 4) (body := lawL2) (fun i δ => ∃ o4, δ = [some (.lck ns), some (chr q), some (wd l), o3, o4, none, none, none]) (l.map D.str) 0
    [some (.lck ns), some (chr q), some (wd l), o3, none, none, none, none] ⟨none, rfl⟩ (by
      rintro i d δ hd ⟨o4, rfl⟩
      obtain ⟨w, hwm, rfl⟩ : ∃ w ∈ l, d = .str w := by
        rw [List.getElem?_map] at hd
        cases e : l[i]? with
        | none => rw [e] at hd; cases hd
        | some w => rw [e] at hd; cases hd; exact ⟨w, List.mem_of_getElem? e, rfl⟩
      have hwl := hw w hwm
      have z1 := is_name_eq w (Nat.le_of_lt (lt_sL (by omega)))
      have z2 := due_eq w (lt_sL (by omega))
      have z3 : φ_law_leaf [.bl (nameB w), .bl (nameB w)] = some (.ok (.bl true)) := by rw [leaf_bl, beq_self_eq_true]
      refine ⟨_, _, rfl, ?_, some (.str w), rfl⟩
      unfold lawL2
      simp only [Ev.defF, Ev.startE, Ev.outR, Ev.sSeq, Ev.seqO, Ev.sSet, Ev.sIf, Ev.sFor, Ev.sRet, Ev.sRetOw, Ev.sNx, Ev.sApp, Ev.appO, Ev.lstAt, Ev.sFrz, Ev.unsO, Ev.bndS, Ev.bndSB, Ev.bndSL, Ev.bnd, Ev.bndB, Ev.bndL, Ev.bndI, Ev.okO, Ev.okB, Ev.okL, Ev.evVar, Ev.fC, Ev.fBin, Ev.fCmp, Ev.fNot, Ev.fAnd, Ev.fOr, Ev.fIf, Ev.fChain, Ev.fIx, Ev.fSl, Ev.evP, Ev.lNil, Ev.lCons, Ev.consL, Ev.fTup, Ev.fLst, Ev.fBi, Ev.fCall, Ev.fIsi, Ev.fM, Ev.iVal, Ev.iRng1, Ev.iRng2, Ev.iZip, Ev.addD, Ev.subD, Ev.mulD, Ev.divD, Ev.modD, Ev.op, Ev.cmpI, Ev.pLt, Ev.pLe, Ev.pGt, Ev.pGe, Ev.neD, Ev.isN, Ev.isnD, Ev.lenD, Ev.intD, Ev.absD, Ev.tupD, Ev.lstD, Ev.Tn.has, Ev.ixD, Ev.itemsD, Ev.rngF1, Ev.rngF2, List.getElem?_cons_zero, List.getElem?_cons_succ, List.set_cons_zero, List.set_cons_succ, List.map_cons, List.map_nil, List.length_cons, List.length_nil, List.replicate, List.append_nil, List.cons_append, List.nil_append, Bool.not_true, Bool.not_false, Bool.false_eq_true, if_true, if_false, reduceIte, ite_true, ite_false, Option.bind_some, Option.bind_none, Option.map_some, Option.map_none, z1, z2, z3])
  unfold φ_law defF
  rw [show startE 8 [D.lck ns] = [some (.lck ns), none, none, none, none, none, none, none] from rfl]
  have key : outR (.vw .fz) (g_law [some (.lck ns), none, none, none, none, none, none, none]) = some (.ok (.bl true)) := by
    unfold g_law
    rw [seq_nx (δ' := [some (.lck ns), some (chr q), none, none, none, none, none, none]) (by
        simp only [Ev.defF, Ev.startE, Ev.outR, Ev.sSeq, Ev.seqO, Ev.sSet, Ev.sIf, Ev.sFor, Ev.sRet, Ev.sRetOw, Ev.sNx, Ev.sApp, Ev.appO, Ev.lstAt, Ev.sFrz, Ev.unsO, Ev.bndS, Ev.bndSB, Ev.bndSL, Ev.bnd, Ev.bndB, Ev.bndL, Ev.bndI, Ev.okO, Ev.okB, Ev.okL, Ev.evVar, Ev.fC, Ev.fBin, Ev.fCmp, Ev.fNot, Ev.fAnd, Ev.fOr, Ev.fIf, Ev.fChain, Ev.fIx, Ev.fSl, Ev.evP, Ev.lNil, Ev.lCons, Ev.consL, Ev.fTup, Ev.fLst, Ev.fBi, Ev.fCall, Ev.fIsi, Ev.fM, Ev.iVal, Ev.iRng1, Ev.iRng2, Ev.iZip, Ev.addD, Ev.subD, Ev.mulD, Ev.divD, Ev.modD, Ev.op, Ev.cmpI, Ev.pLt, Ev.pLe, Ev.pGt, Ev.pGe, Ev.neD, Ev.isN, Ev.isnD, Ev.lenD, Ev.intD, Ev.absD, Ev.tupD, Ev.lstD, Ev.Tn.has, Ev.ixD, Ev.itemsD, Ev.rngF1, Ev.rngF2, List.getElem?_cons_zero, List.getElem?_cons_succ, List.set_cons_zero, List.set_cons_succ, List.map_cons, List.map_nil, List.length_cons, List.length_nil, List.replicate, List.append_nil, List.cons_append, List.nil_append, Bool.not_true, Bool.not_false, Bool.false_eq_true, if_true, if_false, reduceIte, ite_true, ite_false, Option.bind_some, Option.bind_none, Option.map_some, Option.map_none, en', a0, al_len, sm26, show decide ((0 : Int) < 26) = true from rfl, eq]),
      seq_nx (δ' := [some (.lck ns), some (chr q), some (wd ["", c, Txt.mul c 8, Txt.mul c 9]), none, none, none, none, none]) (by
        simp only [sSet, fLst, lCons, lNil, consL, fC, evVar, List.getElem?_cons_succ, List.getElem?_cons_zero, fBin, bnd, m8, m9, okO, bndL, bndS, List.set_cons_succ, List.set_cons_zero]
        rfl)]
    have f1 : sFor (.nm 3) (Ev.iRng1 (fC (.int 20))) lawL1 [some (.lck ns), some (chr q), some (wd ["", c, Txt.mul c 8, Txt.mul c 9]), none, none, none, none, none] = some (.nx [some (.lck ns), some (chr q), some (wd l), o3, none, none, none, none]) := by
      have r := rngOk0 (n := 20) (by omega)
      have r : rngOk 0 20 = some (rngD 0 ((20 : Nat) : Int)) := r
      simp only [sFor, Ev.iRng1, fC, bndI, rngF1, r, okL, bndSL]
      exact e3
    have f2 : sFor (.nm 4) (iVal (evVar 2)) lawL2 [some (.lck ns), some (chr q), some (wd l), o3, none, none, none, none] = some (.nx [some (.lck ns), some (chr q), some (wd l), o3, o4, none, none, none]) := by
      simp only [sFor, iVal, evVar, List.getElem?_cons_succ, List.getElem?_cons_zero, bndI, itemsD, okL, bndSL]
      exact e4
    unfold lawL1 at f1
    unfold lawL2 at f2
    rw [seq_nx f1]
    simp only [sFrz]
    rw [seq_nx f2]
    simp only [Ev.defF, Ev.startE, Ev.outR, Ev.sSeq, Ev.seqO, Ev.sSet, Ev.sIf, Ev.sFor, Ev.sRet, Ev.sRetOw, Ev.sNx, Ev.sApp, Ev.appO, Ev.lstAt, Ev.sFrz, Ev.unsO, Ev.bndS, Ev.bndSB, Ev.bndSL, Ev.bnd, Ev.bndB, Ev.bndL, Ev.bndI, Ev.okO, Ev.okB, Ev.okL, Ev.evVar, Ev.fC, Ev.fBin, Ev.fCmp, Ev.fNot, Ev.fAnd, Ev.fOr, Ev.fIf, Ev.fChain, Ev.fIx, Ev.fSl, Ev.evP, Ev.lNil, Ev.lCons, Ev.consL, Ev.fTup, Ev.fLst, Ev.fBi, Ev.fCall, Ev.fIsi, Ev.fM, Ev.iVal, Ev.iRng1, Ev.iRng2, Ev.iZip, Ev.addD, Ev.subD, Ev.mulD, Ev.divD, Ev.modD, Ev.op, Ev.cmpI, Ev.pLt, Ev.pLe, Ev.pGt, Ev.pGe, Ev.neD, Ev.isN, Ev.isnD, Ev.lenD, Ev.intD, Ev.absD, Ev.tupD, Ev.lstD, Ev.Tn.has, Ev.ixD, Ev.itemsD, Ev.rngF1, Ev.rngF2, List.getElem?_cons_zero, List.getElem?_cons_succ, List.set_cons_zero, List.set_cons_succ, List.map_cons, List.map_nil, List.length_cons, List.length_nil, List.replicate, List.append_nil, List.cons_append, List.nil_append, Bool.not_true, Bool.not_false, Bool.false_eq_true, if_true, if_false, reduceIte, ite_true, ite_false, Option.bind_some, Option.bind_none, Option.map_some, Option.map_none, zipD, zipL, forGo, bindT, bindTs, leafI]
  exact key
end Q

set_option maxHeartbeats 0
open PySem PySem.W PySem.Calls PyProof.Rows
theorem PySem.Challenge.cw_heldcalls_k01_names_holds : PySem.Challenge.rw_heldcalls_k01_names.Holds := by
  w_on; o_law
  refine HandSHeadRun.head_any (r := OpenLaw.row PySem.Challenge.rw_heldcalls_k01_names) (q := view (OpenLaw.row PySem.Challenge.rw_heldcalls_k01_names).prog [9]) (H := Z.hk) (ob := Z.ob) (M := 12000) (loose := Z.loose) (d := HandSHeadRun.topDef (OpenLaw.row PySem.Challenge.rw_heldcalls_k01_names).prog 9) (kwd := []) Z.ob_eq
    (by kernel_rfl) (fun s => by kernel_rfl) Z.run (by kernel_rfl) (by kernel_rfl) (by kernel_rfl) (by rfl) (by first | assumption | decide +kernel) (by decide +kernel) ⟨rfl, rfl, rfl, rfl, rfl, by decide +kernel⟩ ?hw ?hc
  case hw => w_witness2
  case hc =>
    refine Ev.walk_ofW (l := PySem.Challenge.rw_heldcalls_k01_names) (n := 63) (k := 2) (x := "script") rfl (by decide) (by kernel_rfl) ⟨rfl, by decide, by decide⟩ ?F
    intro w mg fa h Y G hmg0
    obtain ⟨K, KX, c⟩ := Y
    have hmg : mg ("law" : PySem.Str) = some (.ref fa) := by
      have e : (HandSHeadRun.topDef (OpenLaw.row PySem.Challenge.rw_heldcalls_k01_names).prog 9).name = ("law" : PySem.Str) := by kernel_rfl
      rw [← e]
      exact hmg0
    obtain ⟨fd, hb, hF⟩ := Z.facts (P := (PySem.Challenge.rw_heldcalls_k01_names).prog) (w := w) KX G hmg c
    exact ⟨K, fd, _, KX, hb, fun H a ns hl hS => Ev.law_end hS (Q.law_true ns), hF⟩


