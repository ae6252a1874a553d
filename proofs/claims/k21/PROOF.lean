import PyProof.Rows.All
import Wide.All
import OpenK.AllK
import Wide.FinOn
import HandS.ForMost
import HandS.Exc
import HandS.TryOnly
import HandS.ExcOwn
import HandS.ExcIs
import HandS.ExcValue
import HandS.IsInst
import HandS.WordsExc
import HandS.Defaults
import HandS.Head0
import HandS.Head1
import HandS.Head2
import HandS.HeadEnd
import HandS.HeadHook1
import HandS.HeadHook2
import HandS.Style
import HandS.SetFor
import HandS.Iter
import HandS.Conv
import HandS.More
import HandS.Comp
import HandS.Dict
import PySem.Challenge.RW_tuneroad_k21_whole_rounds
set_option Elab.async false
set_option linter.all false
set_option maxRecDepth 100000
set_option maxHeartbeats 4000000
/-! Assertions over the abstract heap, side by side: each owns its objects, tuples and known things are shared. -/
namespace TR
open PySem PySem.Spec PyProof.Rows L2

/-- what never changes -/
def Imm : HO → Prop
  | .tup _ => True
  | .frz _ _ => True
  | _ => False
def Sb (a b : Hp) : Prop := ∀ p o, a p = some o → b p = some o
def Dj (a b : Hp) : Prop := ∀ p o u, a p = some o → b p = some u → Imm o
theorem Sb.refl (a : Hp) : Sb a a := fun _ _ h => h
theorem Sb.trans {a b c : Hp} (h : Sb a b) (g : Sb b c) : Sb a c := fun p o e => g p o (h p o e)
abbrev As := Hp → Prop
def Sep : List As → Hp → Prop
  | [], _ => True
  | A :: R, H => ∃ h1 h2, Sb h1 H ∧ Sb h2 H ∧ Dj h1 h2 ∧ A h1 ∧ Sep R h2
theorem Sep.mono : ∀ {L : List As} {H H' : Hp}, Sb H H' → Sep L H → Sep L H'
  | [], _, _, _, _ => trivial
  | A :: R, H, H', s, ⟨h1, h2, s1, s2, d, a, r⟩ => ⟨h1, h2, s1.trans s, s2.trans s, d, a, r⟩
def uni (a b : Hp) : Hp := fun p => match a p with
  | some o => some o
  | none => b p
theorem uni_l {a b : Hp} : Sb a (uni a b) := fun p o e => by
  show (match a p with | some o => some o | none => b p) = some o
  rw [e]
theorem uni_or {a b : Hp} {p : Addr} {o : HO} (e : uni a b p = some o) : a p = some o ∨ b p = some o := by
  have e' : (match a p with | some o => some o | none => b p) = some o := e
  cases q : a p with
  | some u =>
    rw [q] at e'
    exact .inl e'
  | none =>
    rw [q] at e'
    exact .inr e'
theorem uni_sub {a b H : Hp} (ha : Sb a H) (hb : Sb b H) : Sb (uni a b) H := fun p o e => (uni_or e).elim (ha p o) (hb p o)
theorem uni_r {a b H : Hp} (ha : Sb a H) (hb : Sb b H) : Sb b (uni a b) := fun p o e => by
  show (match a p with | some o => some o | none => b p) = some o
  cases q : a p with
  | some u =>
    have h1 := ha p u q
    have h2 := hb p o e
    rw [h1] at h2
    exact h2
  | none => exact e
theorem Dj.symm {a b H : Hp} (ha : Sb a H) (hb : Sb b H) (d : Dj a b) : Dj b a := fun p o u e1 e2 => by
  have h1 := hb p o e1
  have h2 := ha p u e2
  rw [h1] at h2
  cases h2
  exact d p o o e2 e1
theorem Dj.sub {a b c : Hp} (d : Dj a b) (s : Sb c b) : Dj a c := fun p o u e1 e2 => d p o u e1 (s p u e2)
theorem Dj.subl {a b c : Hp} (d : Dj a b) (s : Sb c a) : Dj c b := fun p o u e1 e2 => d p o u (s p o e1) e2
theorem Sep.swap {A B : As} {R : List As} {H : Hp} : Sep (A :: B :: R) H → Sep (B :: A :: R) H
  | ⟨h1, h2, s1, s2, d, a, k1, k2, t1, t2, e, b, r⟩ => by
    have u1 : Sb k1 H := t1.trans s2
    have u2 : Sb k2 H := t2.trans s2
    have d1 : Dj h1 k1 := d.sub t1
    have d2 : Dj h1 k2 := d.sub t2
    refine ⟨k1, uni h1 k2, u1, uni_sub s1 u2, fun p o u e1 e2 => ?_, b, h1, k2, uni_l, uni_r s1 u2, d2, a, r⟩
    rcases uni_or e2 with z | z
    · exact d1.symm s1 u1 p o u e1 z
    · exact e p o u e1 z
theorem Sep.tail {A : As} {R : List As} {H : Hp} : Sep (A :: R) H → Sep R H := fun ⟨_, _, _, s2, _, _, r⟩ => Sep.mono s2 r
theorem Sep.skip {A : As} {R R' : List As} {H : Hp} (f : ∀ h, Sep R h → Sep R' h) : Sep (A :: R) H → Sep (A :: R') H := fun ⟨h1, h2, s1, s2, d, a, r⟩ => ⟨h1, h2, s1, s2, d, a, f h2 r⟩
theorem Sep.hd {A B : As} {R : List As} {H : Hp} (f : ∀ h, A h → B h) : Sep (A :: R) H → Sep (B :: R) H := fun ⟨h1, h2, s1, s2, d, a, r⟩ => ⟨h1, h2, s1, s2, d, f h1 a, r⟩

/-- points to -/
def pt (p : Addr) (o : HO) : As := fun h => h p = some o
theorem Sep.get {p : Addr} {o : HO} {R : List As} {H : Hp} (h : Sep (pt p o :: R) H) : H p = some o := by
  obtain ⟨h1, h2, s1, s2, d, a, r⟩ := h
  exact s1 p o a
theorem Sep.put {p : Addr} {o o' : HO} {R : List As} {H : Hp} (n : ¬ Imm o) (h : Sep (pt p o :: R) H) : Sep (pt p o' :: R) (upd H p o') := by
  obtain ⟨h1, h2, s1, s2, d, a, r⟩ := h
  have n2 : ∀ u, h2 p ≠ some u := fun u e => n (d p o u a e)
  refine ⟨fun b => if b = p then some o' else none, h2, fun b u e => ?_, fun b u e => ?_, fun b u v e1 e2 => ?_, if_pos rfl, r⟩
  · by_cases hb : b = p
    · have e1 : some o' = some u := by
        have e' : (if b = p then some o' else none) = some u := e
        rw [if_pos hb] at e'
        exact e'
      rw [hb]
      unfold upd
      rw [if_pos rfl]
      exact e1
    · have e' : (if b = p then some o' else none) = some u := e
      rw [if_neg hb] at e'
      cases e'
  · by_cases hb : b = p
    · rw [hb] at e
      exact absurd e (n2 u)
    · rw [upd_ne hb]
      exact s2 b u e
  · by_cases hb : b = p
    · rw [hb] at e2
      exact absurd e2 (n2 v)
    · have e' : (if b = p then some o' else none) = some u := e1
      rw [if_neg hb] at e'
      cases e'
theorem Sep.new {p : Addr} {o : HO} {R : List As} {H : Hp} (n : H p = none) (h : Sep R H) : Sep (pt p o :: R) (upd H p o) := by
  refine ⟨fun b => if b = p then some o else none, H, fun b u e => ?_, fun b u e => ?_, fun b u v e1 e2 => ?_, if_pos rfl, h⟩
  · by_cases hb : b = p
    · have e' : (if b = p then some o else none) = some u := e
      rw [if_pos hb] at e'
      rw [hb]
      unfold upd
      rw [if_pos rfl]
      exact e'
    · have e' : (if b = p then some o else none) = some u := e
      rw [if_neg hb] at e'
      cases e'
  · rw [upd_ne (ne_of_none e n)]
    exact e
  · by_cases hb : b = p
    · rw [hb, n] at e2
      cases e2
    · have e' : (if b = p then some o else none) = some u := e1
      rw [if_neg hb] at e'
      cases e'
/-- what is new beside: the own dict of a new instance -/
theorem Sep.newd {p : Addr} {o : HO} {R : List As} {H : Hp} (n : H p = none) (h : Sep R H) : Sep R (upd H p o) := (Sep.new n h).tail
/-- a shared thing once more -/
theorem Sep.dup {p : Addr} {o : HO} {R : List As} {H : Hp} (n : Imm o) (h : Sep (pt p o :: R) H) : Sep (pt p o :: pt p o :: R) H := by
  obtain ⟨h1, h2, s1, s2, d, a, r⟩ := h
  have one : Sb (fun b => if b = p then some o else none) h1 := fun b u e => by
    have e' : (if b = p then some o else none) = some u := e
    by_cases hb : b = p
    · rw [if_pos hb] at e'
      rw [hb, ← e']
      exact a
    · rw [if_neg hb] at e'
      cases e'
  have imm : ∀ b u, (if b = p then some o else none) = some u → Imm u := fun b u e => by
    by_cases hb : b = p
    · rw [if_pos hb] at e
      cases e
      exact n
    · rw [if_neg hb] at e
      cases e
  exact ⟨_, H, one.trans s1, Sb.refl H, fun b u v e1 e2 => imm b u e1, if_pos rfl, h1, h2, s1, s2, d, a, r⟩
/-- a fact -/
def pu (φ : Prop) : As := fun _ => φ
theorem Sep.pu {φ : Prop} {R : List As} {H : Hp} : Sep (pu φ :: R) H → φ ∧ Sep R H := fun ⟨_, _, _, s2, _, a, r⟩ => ⟨a, Sep.mono s2 r⟩
theorem Sep.fact {A : As} {φ : Prop} {R : List As} {H : Hp} (f : ∀ h, A h → φ) : Sep (A :: R) H → φ := fun ⟨h1, _, _, _, _, a, _⟩ => f h1 a
theorem empty_sb (H : Hp) : Sb (fun _ => none) H := fun _ _ e => nomatch e
theorem Sep.pui {φ : Prop} {R : List As} {H : Hp} (f : φ) (h : Sep R H) : Sep (TR.pu φ :: R) H := ⟨fun _ => none, H, empty_sb H, Sb.refl H, fun _ _ _ e => (nomatch e), f, h⟩
/-- there is one -/
def ex {α : Type} (A : α → As) : As := fun h => ∃ x, A x h
theorem Sep.ex {α : Type} {A : α → As} {R : List As} {H : Hp} : Sep (ex A :: R) H → ∃ x, Sep (A x :: R) H := fun ⟨h1, h2, s1, s2, d, ⟨x, a⟩, r⟩ => ⟨x, h1, h2, s1, s2, d, a, r⟩
theorem Sep.exi {α : Type} {A : α → As} {R : List As} {H : Hp} (x : α) (h : Sep (A x :: R) H) : Sep (TR.ex A :: R) H := Sep.hd (fun _ a => ⟨x, a⟩) h
/-- several as one -/
def all (L : List As) : As := fun h => Sep L h
theorem Sep.nil1 {R : List As} {H : Hp} (h : Sep R H) : Sep (all [] :: R) H := ⟨fun _ => none, H, empty_sb H, Sb.refl H, fun _ _ _ e => (nomatch e), trivial, h⟩
theorem Sep.flat : ∀ {L R : List As} {H : Hp}, Sep (all L :: R) H → Sep (L ++ R) H
  | [], R, H, h => h.tail
  | A :: L, R, H, ⟨h1, h2, s1, s2, d, ⟨k1, k2, t1, t2, e, a, l⟩, r⟩ => by
    have u1 : Sb k1 H := t1.trans s1
    have u2 : Sb k2 H := t2.trans s1
    have d2 : Dj k2 h2 := d.subl t2
    have q : Sep (L ++ R) (uni k2 h2) := Sep.flat ⟨k2, h2, uni_l, uni_r u2 s2, d2, l, r⟩
    refine ⟨k1, uni k2 h2, u1, uni_sub u2 s2, fun p o u e1 e2 => ?_, a, q⟩
    rcases uni_or e2 with z | z
    · exact e p o u e1 z
    · exact (d.subl t1) p o u e1 z
theorem Sep.wrap : ∀ {L R : List As} {H : Hp}, Sep (L ++ R) H → Sep (all L :: R) H
  | [], R, H, h => h.nil1
  | A :: L, R, H, ⟨h1, h2, s1, s2, d, a, q⟩ => by
    obtain ⟨k1, k2, t1, t2, e, l, r⟩ := Sep.wrap (L := L) (R := R) q
    have u1 : Sb k1 H := t1.trans s2
    have u2 : Sb k2 H := t2.trans s2
    refine ⟨uni h1 k1, k2, uni_sub s1 u1, u2, fun p o u e1 e2 => ?_, ⟨h1, k1, uni_l, uni_r s1 u1, d.sub t1, a, l⟩, r⟩
    rcases uni_or e1 with z | z
    · exact (d.sub t2) p o u z e2
    · exact e p o u z e2

/-- two as one -/
theorem Sep.join {A B C : As} {R : List As} {H : Hp} (f : ∀ h1 h2 h, Sb h1 h → Sb h2 h → A h1 → B h2 → C h) : Sep (A :: B :: R) H → Sep (C :: R) H := fun ⟨h1, h2, s1, s2, d, a, k1, k2, t1, t2, e, b, r⟩ => by
  refine ⟨uni h1 k1, k2, uni_sub s1 (t1.trans s2), t2.trans s2, fun p o u e1 e2 => ?_, f h1 k1 _ uni_l (uni_r s1 (t1.trans s2)) a b, r⟩
  rcases uni_or e1 with z | z
  · exact (d.sub t2) p o u z e2
  · exact e p o u z e2
/-- what is known of an assertion's part of the heap -/
theorem Sep.part {A : As} {R : List As} {H : Hp} : Sep (A :: R) H → ∃ h, Sb h H ∧ A h := fun ⟨h1, _, s1, _, _, a, _⟩ => ⟨h1, s1, a⟩
/-- entailment -/
def En (L L' : List As) : Prop := ∀ H, Sep L H → Sep L' H
theorem En.refl {L : List As} : En L L := fun _ h => h
theorem En.nil {L : List As} : En L [] := fun _ _ => trivial
theorem En.trans {L M N : List As} (a : En L M) (b : En M N) : En L N := fun H h => b H (a H h)
theorem En.skip {A : As} {L L' : List As} (e : En L L') : En (A :: L) (A :: L') := fun _ h => Sep.skip e h
theorem En.swap {A B : As} {R : List As} : En (A :: B :: R) (B :: A :: R) := fun _ h => Sep.swap h
/-- A stands in L, the rest is R -/
class Pk (A : As) (L : List As) (R : outParam (List As)) : Prop where
  en : En L (A :: R)
  ne : En (A :: R) L
instance Pk.here {A : As} {R : List As} : Pk A (A :: R) R := ⟨En.refl, En.refl⟩
instance (priority := low) Pk.there {A B : As} {L R : List As} [p : Pk A L R] : Pk A (B :: L) (B :: R) := ⟨(En.skip p.en).trans En.swap, En.swap.trans (En.skip p.ne)⟩
/-- o stands at p -/
class At (p : Addr) (L : List As) (o : outParam HO) (R : outParam (List As)) : Prop where
  en : En L (pt p o :: R)
instance At.here {p : Addr} {o : HO} {R : List As} : At p (pt p o :: R) o R := ⟨En.refl⟩
instance (priority := low) At.there {p : Addr} {B : As} {L R : List As} {o : HO} [q : At p L o R] : At p (B :: L) o (B :: R) := ⟨(En.skip q.en).trans En.swap⟩
theorem Sep.at_ {p : Addr} {L R : List As} {o : HO} {H : Hp} (h : Sep L H) [q : At p L o R] : H p = some o := (q.en H h).get
theorem Sep.to {A : As} {L R : List As} {H : Hp} (h : Sep L H) [q : Pk A L R] : Sep (A :: R) H := q.en H h
theorem En.cons {A : As} {L L0 R : List As} [q : Pk A L L0] (e : En L0 R) : En L (A :: R) := q.en.trans (En.skip e)
theorem En.drop {A : As} {L L' : List As} (e : En L L') : En (A :: L) L' := fun _ h => e _ h.tail
/-- the tail of L' is a letter -/
theorem Sep.of {L L' : List As} {H : Hp} (h : Sep L H) (e : En L L') : Sep L' H := e H h
/-- an assertion about what stands at p -/
class Kys (A : As) (p : outParam Addr) : Prop where
  k : True
instance {p : Addr} {o : HO} : Kys (pt p o) p := ⟨trivial⟩
class AtA (p : Addr) (L : List As) (A : outParam As) (R : outParam (List As)) : Prop where
  en : En L (A :: R)
instance AtA.here {p : Addr} {A : As} {R : List As} [Kys A p] : AtA p (A :: R) A R := ⟨En.refl⟩
instance (priority := low) AtA.there {p : Addr} {A B : As} {L R : List As} [q : AtA p L A R] : AtA p (B :: L) A (B :: R) := ⟨(En.skip q.en).trans En.swap⟩
theorem Sep.own {L R : List As} {A : As} {H : Hp} (h : Sep L H) (p : Addr) [q : AtA p L A R] : Sep (A :: R) H := q.en H h
theorem Sep.own2 {L R R2 : List As} {A B : As} {H : Hp} (h : Sep L H) (p q : Addr) [a : AtA p L A R] [b : AtA q R B R2] : Sep (A :: B :: R2) H := Sep.skip b.en (a.en H h)
theorem Sep.own3 {L R R2 R3 : List As} {A B C : As} {H : Hp} (h : Sep L H) (p q r : Addr) [a : AtA p L A R] [b : AtA q R B R2] [c : AtA r R2 C R3] : Sep (A :: B :: C :: R3) H := Sep.skip (fun _ z => Sep.skip c.en (b.en _ z)) (a.en H h)
end TR

set_option Elab.async false
set_option linter.all false
set_option maxRecDepth 100000
set_option maxHeartbeats 4000000
/-! The head's facts by names, with facts of one's own. -/
namespace TR
open PySem PySem.Spec PyProof.Rows L2
/-- what isinstance asks of an exception's class -/
def excB (K : PySem.W.Frag) (x : Str) : Bool :=
  decide (PySem.W.findIn K (.ref (He.ga K x)) "__getattribute__" = some (some (.builtin "BaseException.__getattribute__"))) && (decide (PySem.W.findIn K (.ref (He.ga K x)) "__getattr__" = some none) &&
  (decide (PySem.W.subIn K (.ref (He.ga K x)) (.type "BaseException") = some true) && (PySem.W.hasDictIn K (He.ga K x) &&
  (decide (PySem.W.findIn K (.ref (He.ga K x)) "__class__" = some (some (.builtin "object.__class__"))) && (decide (PySem.W.specialIn K (.builtin "object.__class__") "__get__" = some (some (.builtin "getset_descriptor.__get__"))) &&
  (decide (PySem.W.takesIn K (.builtin "object.__class__") = some true) && decide (PySem.W.mroIn K (He.ga K x) (.type "object") = some true)))))))
theorem excB_ok {K : PySem.W.Frag} {x : Str} (h : excB K x = true) : ExcC K (He.ga K x) := by
  obtain ⟨h1, h⟩ := He.ba h
  obtain ⟨h2, h⟩ := He.ba h
  obtain ⟨h3, h⟩ := He.ba h
  obtain ⟨h4, h⟩ := He.ba h
  obtain ⟨h5, h⟩ := He.ba h
  obtain ⟨h6, h⟩ := He.ba h
  obtain ⟨h7, h8⟩ := He.ba h
  exact ⟨of_decide_eq_true h1, of_decide_eq_true h2, of_decide_eq_true h3, h4, of_decide_eq_true h5, of_decide_eq_true h6, of_decide_eq_true h7, of_decide_eq_true h8⟩
def kitB2 (K : PySem.W.Frag) (x y : Str) (b : Bool) : Bool := decide (PySem.W.kitOne K (.ref (He.ga K x)) (.ref (He.ga K y)) = some b)
def kitV (K : PySem.W.Frag) (x : Str) (T : String) (b : Bool) : Bool := decide (PySem.W.kitOne K (.ref (He.ga K x)) (.type T) = some b)
theorem kitB2_ok {K : PySem.W.Frag} {x y : Str} {b : Bool} (h : kitB2 K x y b = true) : PySem.W.kitOne K (.ref (He.ga K x)) (.ref (He.ga K y)) = some b := of_decide_eq_true h
theorem kitV_ok {K : PySem.W.Frag} {x : Str} {T : String} {b : Bool} (h : kitV K x T b = true) : PySem.W.kitOne K (.ref (He.ga K x)) (.type T) = some b := of_decide_eq_true h

/-- what the head says -/
structure Says (fa : List He.Fa) (fn : List He.DefD) (ex : List (PySem.W.Frag → Bool)) (K : PySem.W.Frag) : Prop where
  d : He.SaysD fa fn K
  e : (ex.all fun f => f K) = true
abbrev AlY : Type := He.AlD × Bool
def obsY (fa : List He.Fa) (fn : List He.DefD) (ex : List (PySem.W.Frag → Bool)) (K : PySem.W.Frag) : AlY := (He.obsD fa fn K, ex.all fun f => f K)
/-- the last c objects, and the module's names -/
def lastK (c : Nat) (N : Nat) (g : Addr → Option Obj) : PySem.W.Frag := He.frG g (mainGlobals :: (List.range c).map fun i => N - 1 - i)
def obsYG (c : Nat) (fa : List He.Fa) (fn : List He.DefD) (ex : List (PySem.W.Frag → Bool)) (N : Nat) (g : Addr → Option Obj) : AlY := obsY fa fn ex (lastK c N g)
def valY (fn : List He.DefD) : AlY := (He.valD fn, true)
def hookY (c : Nat) (fa : List He.Fa) (fn : List He.DefD) (ex : List (PySem.W.Frag → Bool)) : PySem.W.Hook where
  α := AlY
  obs := fun s => obsYG c fa fn ex s.heap.objs.size s.heap.get?
  val := fun _ => valY fn
  says := fun _ h => ∃ K : PySem.W.Frag, K.In h ∧ Says fa fn ex K
  of := fun _ _ e => ⟨_, He.frG_in, ⟨congrArg (fun z : AlY => z.1) e, congrArg (fun z : AlY => z.2) e⟩⟩
  keeps := fun _ _ _ ⟨K, hK, c⟩ k => ⟨K, PySem.W.Frag.In.keeps hK k, c⟩
theorem obsYG_eq {c : Nat} {fa : List He.Fa} {fn : List He.DefD} {ex : List (PySem.W.Frag → Bool)} {N : Nat} {g : Addr → Option Obj} {s : Shared} (hN : N = s.heap.objs.size) (h : ∀ a, g a = s.heap.get? a) : obsYG c fa fn ex N g = (hookY c fa fn ex).obs s := by
  have e : g = s.heap.get? := funext h
  rw [e, hN] <;> rfl
theorem sizeT (s : PySem.W.SharedT) : s.n = s.abs.heap.objs.size := (PySem.W.absHeap_size s.tree s.n s.life).symm
theorem Says.fact {fa : List He.Fa} {fn : List He.DefD} {ex : List (PySem.W.Frag → Bool)} {K : PySem.W.Frag} (c : Says fa fn ex K) (i : Nat) {f : He.Fa} (h : fa[i]? = some f := by rfl) : f.ok K = true := c.d.fact i h
theorem Says.more {fa : List He.Fa} {fn : List He.DefD} {ex : List (PySem.W.Frag → Bool)} {K : PySem.W.Frag} (c : Says fa fn ex K) (i : Nat) {f : PySem.W.Frag → Bool} (h : ex[i]? = some f := by rfl) : f K = true :=
  List.all_eq_true.mp c.e f (List.mem_of_getElem? h)
/-! ### the run's equation in parts, each checked by itself -/
theorem run_pair {σ α β : Type} {o : Option σ} {g : σ → α × β} {b : α × β} (h1 : o.map (fun s => (g s).1) = some b.1) (h2 : o.map (fun s => (g s).2) = some b.2) : o.map g = some b := by
  cases o with
  | none => cases h1
  | some s =>
    have e1 : (g s).1 = b.1 := Option.some.inj h1
    have e2 : (g s).2 = b.2 := Option.some.inj h2
    exact congrArg some (Prod.ext e1 e2)
theorem run_parts {σ α β γ : Type} {o : Option σ} {f : σ → α} {g : σ → β} {h : σ → γ} {a : α} {b : β} {c : γ} (h1 : o.map f = some a) (h2 : o.map g = some b) (h3 : o.map h = some c) : o.map (fun s => (f s, g s, h s)) = some (a, b, c) := by
  cases o with
  | none => cases h1
  | some s =>
    have e1 : f s = a := Option.some.inj h1
    have e2 : g s = b := Option.some.inj h2
    have e3 : h s = c := Option.some.inj h3
    show some (f s, g s, h s) = some (a, b, c)
    rw [e1, e2, e3]
end TR

set_option Elab.async false
set_option linter.all false
set_option maxRecDepth 100000
set_option maxHeartbeats 0
/-! The text by places, the head. -/
namespace TR
open PySem PySem.Spec PyProof.Rows L2
def top (i : Nat) : Stmt := PySem.Challenge.pw_tuneroad_k21_whole_rounds.main.body.getD i (.Pass ⟨0, 0, 0, 0⟩)
abbrev s_Dice_init : Stmt := inClass (top 11) 0
abbrev s_Dice_below : Stmt := inClass (top 11) 1
abbrev s_mixed : Stmt := top 12
abbrev s_Queue_init : Stmt := inClass (top 15) 0
abbrev s_Queue_entries : Stmt := inClass (top 15) 1
abbrev s_Queue_need : Stmt := inClass (top 15) 2
abbrev s_Queue_tune : Stmt := inClass (top 15) 3
abbrev s_Queue_put : Stmt := inClass (top 15) 4
abbrev s_Queue_remove : Stmt := inClass (top 15) 5
abbrev s_Queue_place : Stmt := inClass (top 15) 7
abbrev s_Order_init : Stmt := inClass (top 18) 0
abbrev s_Order_set_again : Stmt := inClass (top 18) 1
abbrev s_Order_set_mixed : Stmt := inClass (top 18) 2
abbrev s_Order_put : Stmt := inClass (top 18) 3
abbrev s_Order_remove : Stmt := inClass (top 18) 4
abbrev s_Order_next_plain : Stmt := inClass (top 18) 5
abbrev s_Order_next_mixed : Stmt := inClass (top 18) 6
abbrev s_Order_skip : Stmt := inClass (top 18) 8
abbrev s_Order_began : Stmt := inClass (top 18) 10
abbrev s_l_cell : Stmt := top 20
abbrev s_l_mix : Stmt := top 21
abbrev s_l_draw : Stmt := top 22
abbrev s_l_round : Stmt := top 23
abbrev s_law : Stmt := top 24
def d_Dice_init : He.DefD := ⟨("Dice", some "__init__"), "__init__", "Dice.__init__", defArgs s_Dice_init, defBody s_Dice_init, defScope s_Dice_init, [], []⟩
def d_Dice_below : He.DefD := ⟨("Dice", some "below"), "below", "Dice.below", defArgs s_Dice_below, defBody s_Dice_below, defScope s_Dice_below, [], []⟩
def d_mixed : He.DefD := ⟨("mixed", none), "mixed", "mixed", defArgs s_mixed, defBody s_mixed, defScope s_mixed, [], []⟩
def d_Queue_init : He.DefD := ⟨("Queue", some "__init__"), "__init__", "Queue.__init__", defArgs s_Queue_init, defBody s_Queue_init, defScope s_Queue_init, [], []⟩
def d_Queue_entries : He.DefD := ⟨("Queue", some "entries"), "entries", "Queue.entries", defArgs s_Queue_entries, defBody s_Queue_entries, defScope s_Queue_entries, [], []⟩
def d_Queue_need : He.DefD := ⟨("Queue", some "need"), "need", "Queue.need", defArgs s_Queue_need, defBody s_Queue_need, defScope s_Queue_need, [], []⟩
def d_Queue_tune : He.DefD := ⟨("Queue", some "tune"), "tune", "Queue.tune", defArgs s_Queue_tune, defBody s_Queue_tune, defScope s_Queue_tune, [], []⟩
def d_Queue_put : He.DefD := ⟨("Queue", some "put"), "put", "Queue.put", defArgs s_Queue_put, defBody s_Queue_put, defScope s_Queue_put, [], []⟩
def d_Queue_remove : He.DefD := ⟨("Queue", some "remove"), "remove", "Queue.remove", defArgs s_Queue_remove, defBody s_Queue_remove, defScope s_Queue_remove, [], []⟩
def d_Queue_place : He.DefD := ⟨("Queue", some "place"), "place", "Queue.place", defArgs s_Queue_place, defBody s_Queue_place, defScope s_Queue_place, [], []⟩
def d_Order_init : He.DefD := ⟨("Order", some "__init__"), "__init__", "Order.__init__", defArgs s_Order_init, defBody s_Order_init, defScope s_Order_init, [], []⟩
def d_Order_set_again : He.DefD := ⟨("Order", some "set_again"), "set_again", "Order.set_again", defArgs s_Order_set_again, defBody s_Order_set_again, defScope s_Order_set_again, [], []⟩
def d_Order_set_mixed : He.DefD := ⟨("Order", some "set_mixed"), "set_mixed", "Order.set_mixed", defArgs s_Order_set_mixed, defBody s_Order_set_mixed, defScope s_Order_set_mixed, [], []⟩
def d_Order_put : He.DefD := ⟨("Order", some "put"), "put", "Order.put", defArgs s_Order_put, defBody s_Order_put, defScope s_Order_put, [], []⟩
def d_Order_remove : He.DefD := ⟨("Order", some "remove"), "remove", "Order.remove", defArgs s_Order_remove, defBody s_Order_remove, defScope s_Order_remove, [], []⟩
def d_Order_next_plain : He.DefD := ⟨("Order", some "next_plain"), "next_plain", "Order.next_plain", defArgs s_Order_next_plain, defBody s_Order_next_plain, defScope s_Order_next_plain, [], []⟩
def d_Order_next_mixed : He.DefD := ⟨("Order", some "next_mixed"), "next_mixed", "Order.next_mixed", defArgs s_Order_next_mixed, defBody s_Order_next_mixed, defScope s_Order_next_mixed, [], []⟩
def d_Order_skip : He.DefD := ⟨("Order", some "skip"), "skip", "Order.skip", defArgs s_Order_skip, defBody s_Order_skip, defScope s_Order_skip, [], []⟩
def d_Order_began : He.DefD := ⟨("Order", some "began"), "began", "Order.began", defArgs s_Order_began, defBody s_Order_began, defScope s_Order_began, [], []⟩
def d_l_cell : He.DefD := ⟨("_law_cell", none), "_law_cell", "_law_cell", defArgs s_l_cell, defBody s_l_cell, defScope s_l_cell, [], []⟩
def d_l_mix : He.DefD := ⟨("_law_mix", none), "_law_mix", "_law_mix", defArgs s_l_mix, defBody s_l_mix, defScope s_l_mix, [], []⟩
def d_l_draw : He.DefD := ⟨("_law_draw", none), "_law_draw", "_law_draw", defArgs s_l_draw, defBody s_l_draw, defScope s_l_draw, [], []⟩
def d_l_round : He.DefD := ⟨("_law_round", none), "_law_round", "_law_round", defArgs s_l_round, defBody s_l_round, defScope s_l_round, [], []⟩
def d_law : He.DefD := ⟨("law", none), "law", "law", defArgs s_law, defBody s_law, defScope s_law, [], []⟩
def fn : List He.DefD := (([d_Dice_init, d_Dice_below, d_mixed, d_Queue_init, d_Queue_entries, d_Queue_need, d_Queue_tune, d_Queue_put, d_Queue_remove, d_Queue_place, d_Order_init, d_Order_set_again, d_Order_set_mixed, d_Order_put, d_Order_remove, d_Order_next_plain, d_Order_next_mixed, d_Order_skip, d_Order_began, d_l_cell] : List He.DefD) ++ ([d_l_mix, d_l_draw, d_l_round, d_law] : List He.DefD))
def fa : List He.Fa := (([.glo "RoadError", .exc "RoadError", .glo "BadNumber", .exc "BadNumber", .glo "BadEntry", .exc "BadEntry", .glo "BadWord", .exc "BadWord", .glo "Dice", .cls "Dice", .mkr "Dice", .noat "Dice" "number", .meth "Dice" "below", .glo "Queue", .cls "Queue", .mkr "Queue", .noat "Queue" "tunes", .noat "Queue" "turn", .noat "Queue" "last", .meth "Queue" "entries"] : List He.Fa) ++ (([.meth "Queue" "need", .meth "Queue" "tune", .meth "Queue" "put", .meth "Queue" "remove", .meth "Queue" "place", .glo "Order", .cls "Order", .mkr "Order", .noat "Order" "queue", .noat "Order" "dice", .noat "Order" "is_mixed", .noat "Order" "again", .noat "Order" "deck", .noat "Order" "is_gone", .noat "Order" "behind", .meth "Order" "set_again", .meth "Order" "set_mixed", .meth "Order" "put", .meth "Order" "remove", .meth "Order" "next_plain"] : List He.Fa) ++ ([.meth "Order" "next_mixed", .meth "Order" "skip", .meth "Order" "began", .glo "mixed", .glo "_law_cell", .glo "_law_mix", .glo "_law_draw", .glo "_law_round", .glo "law", .int "WHEEL" 6075, .int "TIMES" 106, .int "MORE" 1283, .int "MOST" 60, .int "MOST_ENTRIES" 12, .glo "REPEATS", .free "len", .free "range", .free "list", .free "sorted", .free "ValueError"] : List He.Fa)))
def exs : List (PySem.W.Frag → Bool) := ([fun K => true, fun K => excB K "RoadError", fun K => excB K "BadNumber", fun K => excB K "BadEntry", fun K => excB K "BadWord", fun K => He.tupB K "REPEATS" [.str "none", .str "all", .str "one"]] : List (PySem.W.Frag → Bool))
abbrev R : PySem.W.OpenRow := PySem.W.OpenLaw.row PySem.Challenge.rw_tuneroad_k21_whole_rounds
def loose : List Str := (["_wall", "__name__", "RoadError", "BadNumber", "BadEntry", "BadWord", "WHEEL", "TIMES", "MORE", "MOST", "Dice", "mixed", "MOST_ENTRIES", "Queue", "REPEATS", "Order", "_law_cell", "_law_mix", "_law_draw", "_law_round"] : List Str)
def ilaw : Nat := 24
def steps : Nat := 5000
def objs : Nat := 500
abbrev hk : PySem.W.Hook := hookY objs fa fn exs
def ob (s : PySem.W.SharedT) : AlY := obsYG objs fa fn exs s.n (HandSHeadRun.getT s)
theorem ob_eq (s : PySem.W.SharedT) : ob s = hk.obs s.abs := obsYG_eq (sizeT s) (HandSHeadRun.getT_eq s)
noncomputable section
open HandSHeadRun PySem.W PySem.Calls
abbrev qV : Program := PySem.W.view R.prog [ilaw]
abbrev seenV (s : SharedT) := seenQ qV loose (importedModules R.prog.main.body) (fun s => xlAt qV [] s && recOk R.toRowW.records s) s.abs
abbrev endV (w : World) (os : OsState) : Option SharedT := endF (stepQ (denQ tabQ) R.prog w) steps R.prog w os
theorem run1 (w : World) (os : OsState) : (endV w os).map (fun s => looksF R.prog (boot_heap w.params) s.abs) = some true := by kernel_rfl
theorem run2 (w : World) (os : OsState) : (endV w os).map (fun s => (seenV s).1) = some (openGood qV loose).1 := by kernel_rfl
theorem run3 (w : World) (os : OsState) : (endV w os).map (fun s => (seenV s).2.1) = some (openGood qV loose).2.1 := by kernel_rfl
theorem run4 (w : World) (os : OsState) : (endV w os).map (fun s => (seenV s).2.2.1) = some (openGood qV loose).2.2.1 := by kernel_rfl
theorem run5 (w : World) (os : OsState) : (endV w os).map (fun s => (seenV s).2.2.2) = some (openGood qV loose).2.2.2 := by kernel_rfl
theorem run6 (w : World) (os : OsState) : (endV w os).map (fun s => (ob s).1.1) = some true := by kernel_rfl
theorem run7 (w : World) (os : OsState) : (endV w os).map (fun s => (ob s).1.2) = some (fn.map He.DefD.val) := by kernel_rfl
theorem run8 (w : World) (os : OsState) : (endV w os).map (fun s => (ob s).2) = some true := by kernel_rfl
theorem run (w : World) : RunEq R qV hk ob steps loose w := fun os =>
  run_parts (run1 w os) (run_pair (run2 w os) (run_pair (run3 w os) (run_pair (run4 w os) (run5 w os)))) (run_pair (b := hk.val w) (run_pair (b := (hk.val w).1) (run6 w os) (run7 w os)) (run8 w os))
end
end TR

set_option Elab.async false
set_option linter.all false
set_option maxRecDepth 100000
set_option maxHeartbeats 4000000
/-! An error that is caught and held by a name; isinstance of it; calls of own defs in short. -/
namespace TR
open PySem PySem.Spec PyProof.Rows L2

/-! ### an exception object that is held -/
def ExA (cls : Value) (a : Addr) : HO := .ext fun h => ∃ (oe : Obj) (vs : Array Value), h.get? a = some oe ∧ Zc cls none oe ∧ oe.data = .fields vs
theorem exA_ok {P : Program} {w : World} {H : Hp} {h : Heap} {a : Addr} {cls : Value} {oe : Obj} {vs : Array Value} (e : h.get? a = some oe) (z : Zc cls none oe) (d : oe.data = .fields vs) : ObjOk P w H h a (ExA cls a) :=
  ⟨⟨oe, vs, e, z, d⟩, ⟨oe, e⟩, fun _ _ ⟨o, v, q, r⟩ k => ⟨o, v, k o q, r⟩⟩
section
variable {X : Cx} {pins : List (Addr × Obj)} {σ : L2.St} {H : Hp} {s : Shared}
theorem Inv.track {a : Addr} {o : HO} (I : Inv X pins σ H s) (na : H a = none) (n0 : X.s_0.heap.get? a = none) (np : ∀ p ∈ X.pn ++ pins, p.1 ≠ a) (nL : a ≠ X.env.locals) (nc : ∀ x c, X.env.cells.lookup x = some c → c ≠ a)
    (new : ObjOk X.prog X.w (upd H a o) s.heap a o) : Inv X pins σ (upd H a o) s := by
  refine ⟨I.ok, I.os, I.bare, ⟨fun b ob e n hb hx => I.base.keep b ob e n hb hx, fun b ob e n hb hx => I.base.slot b ob e n hb hx, fun b ob e n hx => ?_, fun b ob e hx => I.base.there b ob e hx, fun b xs e => ?_, fun b ob xs e => ?_, fun b ps e => ?_⟩, I.loc, I.cell, ?_, fun x c e => ?_, fun p hp => ?_, fun b u e => ?_, I.len⟩
  · have hb : b ≠ a := fun z => by
      rw [z, n0] at e
      cases e
    rw [upd_ne hb]
    exact I.base.free b ob e n hx
  · have q := I.base.tups b xs e
    rw [upd_ne (ne_of_none q na)]
    exact q
  · have q := I.base.frzs b ob xs e
    rw [upd_ne (ne_of_none q na)]
    exact q
  · obtain ⟨m, q⟩ := I.base.tbls b ps e
    refine ⟨m, ?_⟩
    rw [upd_ne (ne_of_none q na)]
    exact q
  · rw [upd_ne (Ne.symm nL)]
    exact I.free
  · rw [upd_ne (nc x c e)]
    exact I.freeC x c e
  · obtain ⟨e, n, r⟩ := I.pin p hp
    refine ⟨e, ?_, r⟩
    rw [upd_ne (np p hp)]
    exact n
  · by_cases hb : b = a
    · rw [hb] at e ⊢
      rw [upd_same] at e
      cases e
      exact new
    · rw [upd_ne hb] at e
      exact (I.hok b u e).stay (fun _ _ _ q => q) (fun c q => by rw [upd_ne (ne_of_none q na)]; exact q) fun c xs q => by rw [upd_ne (ne_of_none q na)]; exact q
theorem Inv.unsuiteK {a : Addr} {q : Addr × Obj} (I : Inv (X.suite a (q :: (X.pn ++ pins))) [] σ H s) (ok : X.Ok) : Inv X (q :: pins) σ H s :=
  ⟨ok, I.os, I.bare, I.base, I.loc, I.cell, I.free, I.freeC, fun p hp => I.pin p (by
    rw [List.append_nil]
    show p ∈ q :: (X.pn ++ pins)
    rcases List.mem_append.mp hp with z | z
    · exact List.mem_cons_of_mem _ (List.mem_append_left _ z)
    · rcases List.mem_cons.mp z with z | z
      · rw [z]
        exact List.mem_cons_self
      · exact List.mem_cons_of_mem _ (List.mem_append_right _ z)), I.hok, I.len⟩
end

/-- what the clause «except x as n» wishes; behind the suite the error is known as an object -/
def wHold (K : PySem.W.Frag) (c : Value) (i : Nat) (ts : Addr → List (Addr × Obj) → TS) (Wout : WX) (D : Ends) : WX := fun cls d σ H =>
  ∃ b, PySem.W.exmOne K cls c = some b ∧ (b = true → d = none ∧ ∀ a pn, H a = none → ts a pn { nx := fun σ' H' => H' a = none ∧ D.nx (σ'.set i none) (upd H' a (ExA cls a)), rt := fun _ _ => False } (σ.set i (some (.ref a))) H) ∧
    (b = false → Wout cls d σ H)
section
variable {X : Cx} {x n : Str} {c : Value} {i : Nat} {body suite : List Stmt} {b₀ : Stmt} {np pos pos' : Pos} {ts : Addr → List (Addr × Obj) → TS} {Wout : WX}
  {tb : ∀ (W : WX) (pn : List (Addr × Obj)) (xe : Value → Shared → Prop), Takes (X.tr pn xe) W → PassesOwn (model X.prog X.w) X.A X.env xe → TS}
/-- a try's reading -/
def tTry (X : Cx) (c : Value) (i : Nat) (ts : Addr → List (Addr × Obj) → TS) (Wout : WX) (tb : ∀ (W : WX) (pn : List (Addr × Obj)) (xe : Value → Shared → Prop), Takes (X.tr pn xe) W → PassesOwn (model X.prog X.w) X.A X.env xe → TS) : TS :=
  fun D σ H => ∀ pn xe (tk : Takes (X.tr pn xe) (wHold X.K c i ts Wout D)) (po : PassesOwn (model X.prog X.w) X.A X.env xe), tb (wHold X.K c i ts Wout D) pn xe tk po D σ H
theorem ps_try_hold (hs : X.stack = X.env :: X.outer) (hf : X.env.frame = some X.env.locals) (hex : X.ex = []) (hN : X.N.Nodup) (hi : X.N[i]? = some n) (hln : X.env.kindOf n = some .local) (hc : Names X x c) (tk : Takes X Wout)
    (hb : ∀ (W : WX) (pn : List (Addr × Obj)) (xe : Value → Shared → Prop) (tk : Takes (X.tr pn xe) W) (po : PassesOwn (model X.prog X.w) X.A X.env xe), PSs (X.tr pn xe) body (tb W pn xe tk po))
    (hsu : ∀ (a : Addr) (pn : List (Addr × Obj)), PSs (X.suite a pn) (b₀ :: suite) (ts a pn)) :
    PS X (.Try body [.ExceptHandler (some (.Name x np)) (some n) (b₀ :: suite) pos'] [] [] pos) (tTry X c i ts Wout tb) := by
  refine ⟨fun pins s σ H D I h => ?_⟩
  have ok := I.ok
  have hfr : X.A.frames = some (X.env :: X.outer) := by rw [ok.frames, hs]
  have hloc : Loc X.env.scope n := .inl hln
  refine wpAny_Try_except ?_
  refine wpAny_mono ((hb (wHold X.K c i ts Wout D) (X.pn ++ pins) (fun e s₁ => wpAny (model X.prog X.w) X.A (noteFrame e X.env) (fun _ s₂ => wpAny (model X.prog X.w) X.A (setFlight e none) (fun _ s₃ =>
    wpAny (model X.prog X.w) X.A (handleBy e X.env [.ExceptHandler (some (.Name x np)) (some n) (b₀ :: suite) pos']) (SP X pins D) X.xe s₃) X.xe s₂) X.xe s₁) (fun u s' xx => ?_) PassesOwn.looking).run [] s σ H D (I.toTry _) (h _ _ _ _)) (fun f s1 hsp => ?_) (fun e s1 he => he)
  · obtain ⟨a, B, sI, pins', σ', H', cls, d, rfl, J', nb, up, sky, na, os, ag, b, hb1, hyes, hno⟩ := xx
    have J : Inv X pins σ' H' sI := J'.ofTry ok
    have sky' : Sky B (X.env :: X.outer) a (Zc cls d) X.env.locals s'.heap := by rw [← hs]; exact sky
    show wpAny (model X.prog X.w) X.A (noteFrame (.ref a) X.env) _ _ _
    refine Sky.land Zc.steady hfr hf sky' fun h3 fl3 up3 => ?_
    have J3 : Inv X pins σ' H' { s' with heap := h3 } := J.landed nb fl3.1 (up.trans up3) os ag
    obtain ⟨oe3, vs3, he3, hz3, hd3⟩ := fl3.there
    have notFr : ∀ {h : Heap} {o : Obj} {vs : Array Value}, h.FunFrames B (X.env :: X.outer) → h.get? a = some o → o.data = .fields vs → a ∉ frs (X.env :: X.outer) := fun {h o vs} ff e dd hm => by
      obtain ⟨_, o', e', hnf⟩ := ff.mem hm
      rw [e] at e'; cases e'
      exact hnf _ dd
    have nfr := notFr fl3.2.2.1 he3 hd3
    have nL : a ≠ X.env.locals := fun z => nfr (List.mem_filterMap.mpr ⟨X.env, List.mem_cons_self, by rw [hf, z]⟩)
    have nF : a ∉ X.fs := fun hm => by
      obtain ⟨e, he, q⟩ := List.mem_filterMap.mp hm
      exact nfr (List.mem_filterMap.mpr ⟨e, List.mem_cons_of_mem _ he, q⟩)
    have nB : B.get? a = none := fl3.2.1
    have nI : ∀ o, sI.heap.get? a ≠ some o := fun o e => by
      have q := nb a o e (by rw [hs]; exact nfr)
      rw [nB] at q
      cases q
    have n0 : X.s_0.heap.get? a = none := by
      cases q : X.s_0.heap.get? a with
      | none => rfl
      | some o =>
        obtain ⟨o', e'⟩ := J.base.there a o q (by rw [hex]; exact fun z => nomatch z)
        exact absurd e' (nI o')
    have npn : ∀ p ∈ X.pn ++ pins, p.1 ≠ a := fun p hp z => by
      have q := (J'.pin p (List.mem_append_left _ hp)).1
      rw [z] at q
      exact nI _ q
    have ncl : ∀ y k, X.env.cells.lookup y = some k → k ≠ a := fun y k e z => by
      obtain ⟨v, o, ho, hd⟩ := J.cell y k e
      rw [z] at ho
      exact nI _ ho
    have S3 := J3.suite he3 hd3 na nL nF
    refine wpAny_handleBy_cons (codeAny_handlers_test ?_) (by intro q; cases q)
    have LT : PySem.W.Looks (model X.prog X.w) h3 (typeOf (.ref a)) cls := fun A Q E s k q => wpAny_typeOf_ref (k _ _ he3) (by rw [hz3.1]; exact q)
    have LM := PySem.W.exm_one (M := model X.prog X.w) (J3.kIn) LT hb1
    have test : ∀ {Q : Value → Shared → Prop} {E : Value → Shared → Prop}, Q c { s' with heap := h3 } → wpAny (model X.prog X.w) (X.A.mark (some (.ref a))) (eval (.Name x np) X.env) Q E { s' with heap := h3 } := fun {Q E} q => by
      obtain ⟨hg, hdbg, hm | ⟨hm, hv, hnn⟩⟩ := hc
      · exact ld_glob (X := X.suite a ((a, oe3) :: (X.pn ++ pins))) S3 hg hm q hdbg
      · exact ld_blt (X := X.suite a ((a, oe3) :: (X.pn ++ pins))) S3 hg hm hv q hnn hdbg
    refine test (LM.here ?_)
    cases b with
    | true =>
      refine codeAny_handlers_suite_as ?_
      refine HandSPX.lands_againZ fl3 fun h4 fl4 up4 => ?_
      have J4 : Inv X pins σ' H' { s' with heap := h4 } := J.landed nb fl4.1 ((up.trans up3).trans up4) os ag
      obtain ⟨oe4, vs4, he4, hz4, hd4⟩ := fl4.there
      have S4 := J4.suite he4 hd4 na nL nF
      obtain ⟨hd0, hyes2⟩ := hyes rfl
      subst hd0
      refine store_ok (X := X.suite a ((a, oe4) :: (X.pn ++ pins))) (v := .ref a) S4 hN hi hloc rfl (fun s5 S5 => ?_) (.inr hln)
      refine wpAny_mono ((hsu a ((a, oe4) :: (X.pn ++ pins))).run [] s5 _ H' _ S5 (hyes2 a _ na)) (fun f s6 hsp => ?_) (fun _ _ z => False.elim z)
      cases f with
      | next =>
        obtain ⟨σ6, H6, S6, n6, q6⟩ := hsp
        have S6' : Inv X ((a, oe4) :: pins) σ6 H6 s6 := Inv.unsuiteK S6 ok
        show wpAny (model X.prog X.w) X.A (do bindName X.env n .none; unbindBehindTheSuite X.env n pos') _ X.xe s6
        refine gone_ok S6' hN hi hln fun s7 J7 => ?_
        have hp := J7.pin (a, oe4) (List.mem_append_right _ List.mem_cons_self)
        have J8 : Inv X pins (σ6.set i none) H6 s7 := J7.pins_of fun p hp => J7.pin p (List.mem_append_right _ (List.mem_cons_of_mem _ hp))
        exact ⟨_, _, Inv.track J8 n6 n0 npn nL ncl (exA_ok hp.1 hz4 hd4), q6⟩
      | brk =>
        obtain ⟨σ6, H6, S6, q6⟩ := hsp
        exact False.elim q6
      | cont =>
        obtain ⟨σ6, H6, S6, q6⟩ := hsp
        exact False.elim q6
      | ret u =>
        obtain ⟨v6, σ6, H6, S6, r6, q6⟩ := hsp
        exact False.elim q6
    | false =>
      show wpAny _ X.A (handleBy (.ref a) X.env []) _ _ _
      refine wpAny_handleBy_nil ?_
      obtain ⟨k1, k2, k3, oe, vs, T, oT, ts', he, hz, hd, h1, hr⟩ := id fl3
      unfold PySem.passOn
      refine wpAny_bind (wpAny_field he hd h1 ?_)
      rw [if_neg (show ¬ ((Value.ref T == Value.none) = true) from by simp)]
      have fin : wpAny (model X.prog X.w) X.A (setFlight (.ref a) X.env.frame) (fun _ s4 => wpAny (model X.prog X.w) X.A (throw (.ref a) : Sem Flow) (SP X pins D) X.xe s4) X.xe { s' with heap := h3 } := by
        rw [hf]
        refine HandSPX.setFlight_upZ fl3 fun h4 hh4 up4 => wpAny_throw (tk _ _ ?_)
        exact ⟨a, B, sI, pins, σ', H', cls, d, rfl, J, nb, (up.trans up3).trans up4, .inr (.inr (by rw [hs]; exact hh4)), na, os, ag, hno rfl⟩
      first
        | exact wpAny_bind (wpAny_pure (wpAny_bind fin))
        | exact wpAny_bind fin
  · cases f with
    | next =>
      obtain ⟨σ', H', J', q⟩ := hsp
      exact wpAny_execs_nil ⟨σ', H', J'.ofTry ok, q⟩
    | brk =>
      obtain ⟨σ', H', J', q⟩ := hsp
      exact ⟨σ', H', J'.ofTry ok, q⟩
    | cont =>
      obtain ⟨σ', H', J', q⟩ := hsp
      exact ⟨σ', H', J'.ofTry ok, q⟩
    | ret u =>
      obtain ⟨v, σ', H', J', r, q⟩ := hsp
      exact ⟨v, σ', H', J'.ofTry ok, r, q⟩
end

/-- isinstance(x, c), x an error that is held -/
def rIsX (K : PySem.W.Frag) : List V → Hp → VK → Prop := fun xs H Q => ∃ (a D : Addr) (c : V) (cv : Value) (b : Bool), xs = [.ref a, c] ∧ H a = some (ExA (.ref D) a) ∧ ExcC K D ∧ (∀ u, RelV c u → u = cv) ∧ PySem.W.kitOne K (.ref D) cv = some b ∧ Q (.bl b) H
theorem call_isX {X : Cx} : CallR X (.builtin "isinstance") (rIsX X.K) := by
  intro pins s σ H xs us Q I r h
  obtain ⟨a, D, c, cv, b, rfl, ha, C, hcv, e, q⟩ := h
  cases r with
  | cons rx rr =>
    cases rr with
    | cons rt rr =>
      cases rr
      cases rx
      have ec := hcv _ rt
      subst ec
      obtain ⟨⟨oe, vs, hget, hz, hv⟩, _, _⟩ := (show ObjOk X.prog X.w H s.heap a (ExA (.ref D) a) from I.hok a _ ha)
      have J : PySem.W.InstAt s.heap a oe D none := by
        obtain ⟨oc, od, oda, osl⟩ := oe
        obtain ⟨h1, h2⟩ := hz
        dsimp only at h1 h2 hv
        subst h1 h2 hv
        exact ⟨hget, rfl, rfl, trivial⟩
      exact PySem.W.kia_one (PySem.W.handS_kitx_exc C.hg C.hk C.hs C.hd C.ha C.hn C.ht C.hm) I.kIn J e (fun z => nomatch z) fun tk => ⟨.bl b, H, I.kept (t' := tk) fun _ _ z => z, rfl, q⟩

/-! ### a def of the text, its promise -/
def OkD (P : Program) (w : World) (K : PySem.W.Frag) (mg : Str → Option Value) (base : Heap) (d : He.DefD) (k : Nat) (ps : List Str) (sp : Sp) : Prop :=
  ∃ fd, (PySem.W.keepIn K (.ref (He.fAd K d.at_)) = true ∧ ∀ (s : Shared) (us : List Value), us.length = ps.length → BindsTo s fd ⟨us, []⟩ (ps.zip us)) ∧ (Binds K fd ps [] ∧ ∃ oc od osl, K.lookup (He.fAd K d.at_) = some ⟨oc, od, .func fd, osl⟩) ∧ FnOk P w K mg base (L2.CX P w) k (He.fAd K d.at_) fd ps sp
section
variable {P : Program} {w : World} {K : PySem.W.Frag} {mg : Str → Option Value} {base : Heap}
theorem okD {d : He.DefD} {N ps : List Str} {k : Nat} {sp : Sp} (F : ∃ fd, FunD K d.name d.qual d.params d.body d.scope [] [] (He.fAd K d.at_) fd) (S : FnScope N ps d.scope)
    (b : ∀ (kV doc pm : Value) (an : Option Addr) (cdv ct : Value) (us : List Value), us.length = ps.length → bindArgs (PySem.W.fnOf d.name d.qual d.params d.body d.scope .none kV doc pm an cdv ct) ⟨us, []⟩ = pure (ps.zip us))
    (len : ∀ vs H Q E, sp vs H Q E → vs.length = ps.length)
    (body : ∀ (cdv : Value) (A : Around) (outer : List Env) (s : Shared) (H : Hp) (vs : List V) (Q : VK) (E : XK), Room k (A.deeper (envOfC d.qual d.scope s.heap.objs.size (He.fAd K d.at_) cdv)) → sp vs H Q E →
      ∃ t, PSs (cxOf (L2.CX P w) P w K mg base N d.qual d.scope (He.fAd K d.at_) cdv A outer s H E) d.body t ∧ t { nx := fun _ H' => Q .non H', rt := Q } (start N vs) H) : OkD P w K mg base d (k + 1) ps sp := by
  obtain ⟨fd, F⟩ := F
  obtain ⟨oc, od, dV, kV, doc, pm, an, cdv, ct, osl, e, lk, _⟩ := F.ex
  exact ⟨fd, ⟨F.kp, F.bindsA b⟩, ⟨F.bindsN b, oc, od, osl, lk⟩, F.ok S len body⟩
theorem OkD.mono {d : He.DefD} {k j : Nat} {ps : List Str} {sp : Sp} (G : OkD P w K mg base d k ps sp) (h : k ≤ j) : OkD P w K mg base d j ps sp := by
  obtain ⟨fd, h1, h2, h3⟩ := G
  exact ⟨fd, h1, h2, h3.mono h⟩
/-- in a def's body: what is raised leaves the def -/
theorem tkD {N : List Str} {qual : Str} {scope : Scope} {f : Addr} {cd : Value} {A : Around} {outer : List Env} {s : Shared} {H : Hp} {E : XK} : Takes (cxOf (L2.CX P w) P w K mg base N qual scope f cd A outer s H E) (fun cls d _ H => E cls d H) :=
  takes_of rfl rfl rfl rfl
theorem paD {N : List Str} {qual : Str} {scope : Scope} {f : Addr} {cd : Value} {A : Around} {outer : List Env} {s : Shared} {H : Hp} {E : XK} (σ : L2.St) : PassesAt (L2.CX P w) (cxOf (L2.CX P w) P w K mg base N qual scope f cd A outer s H E) σ E :=
  fun pins H1 s1 e s' I c => passes_call tkD (fun _ _ _ _ h => h) pins σ H1 s1 e s' I c
end
/-- nothing is raised -/
theorem paN {X : Cx} (σ : L2.St) : PassesAt (L2.CX X.prog X.w) X σ E0 := fun pins H1 s1 e s' I c => passL pins σ H1 s1 e s' I c
/-- f(..), o.m(..), C(..): what is wanted of an exception hangs on the slots -/
def tMt (C : Addr) (m : Str) (sp : Sp) (E : L2.St → XK) (ta : TE) (t : TA) : TE := fun σ H Q => ta σ H fun x H1 => ∃ a dx fs, x = .ref a ∧ H1 a = some (.ins C dx fs) ∧ fs.lookup m = none ∧ t σ H1 fun vs H2 => sp (x :: vs) H2 Q (E σ)
def tMk (C : Addr) (sp : Sp) (E : L2.St → XK) (t : TA) : TE := fun σ H Q => t σ H fun vs H1 => ∀ x dx, H1 x = none → H1 dx = none → dx ≠ x →
  sp (.ref x :: vs) (upd (upd H1 dx (.own x)) x (.ins C dx [])) (fun v H2 => v = .non ∧ Q (.ref x) H2) (E σ)
section
variable {X : Cx} {d : He.DefD} {k : Nat} {ps : List Str} {sp : Sp} {E : L2.St → XK} {x m C : Str} {p pos apos : Pos} {e o : Expr} {es : List Expr} {ta : TE} {t : TA}
theorem px_call (G : OkD X.prog X.w X.K X.mg X.base d k ps sp) (hr : Room k X.A) (hg : Gl X x) (hm : X.mg x = some (.ref (He.fAd X.K d.at_))) (hx : ∀ σ, PassesAt (L2.CX X.prog X.w) X σ (E σ)) (ha : PA X (e :: es) t)
    (hdb : (x == ("__debug__" : Str)) = false := by decide) (he : starEach (e :: es) X.env = (false, eval e X.env) :: starEach es X.env := by rfl) (hpl : (backTo pos (starEach es X.env)).any (·.1) = false := by rfl) :
    PE X (.Call (.Name x p) (e :: es) [] pos) (tCallS sp E t) := by
  obtain ⟨fd, ⟨hk, _⟩, ⟨hb, _⟩, F⟩ := G
  exact pe_callS F hr hg hm hk hb hx ha hdb he hpl
theorem px_meth {pl : Sem Bool} (G : OkD X.prog X.w X.K X.mg X.base d k ps sp) (hr : Room k X.A) (he : PE X o ta) (c : Cls X.K (He.ga X.K C)) (hm : Meth X.K (He.ga X.K C) m (He.fAd X.K d.at_)) (hx : ∀ σ, PassesAt (L2.CX X.prog X.w) X σ (E σ)) (ha : PA X (e :: es) t)
    (hst : starEach (e :: es) X.env = (false, eval e X.env) :: starEach es X.env := by rfl) (hpl : (backTo pos (starEach es X.env)).any (·.1) = false := by rfl)
    (ht : eval (.Call (.Attribute o m apos) (e :: es) [] pos) X.env = (do
      let ov ← eval o X.env
      standAt apos.atName
      let (f, first) ← holding [ov] (getMethod ov m pl)
      callWith pos f first (backTo pos (starEach (e :: es) X.env)) (backToKw pos (keywordEach [] X.env))) := by rfl) :
    PE X (.Call (.Attribute o m apos) (e :: es) [] pos) (tMt (He.ga X.K C) m sp E ta t) := by
  obtain ⟨fd, ⟨hk, _⟩, ⟨hb, _⟩, F⟩ := G
  refine ⟨fun pins s σ H Q I h => ?_⟩
  refine PySem.W.methodCall_KW (pl := pl) (thn (he.run pins s σ H _ I h) fun u s1 ⟨x, H1, I1, rx, a, dx, fs, ex, ea, l, q⟩ => ?_) ht
  subst ex
  obtain rfl : u = Value.ref a := rx
  refine getmeth_ok I1 ea c hm l ?_
  refine PySem.W.callWith_K (first := [.ref a]) (h₀ := X.base) I.ok.mod.kin hm.kp (thn (ha.run pos pins s1 σ H1 _ I1 q) fun us s2 ⟨vs, H2, I2, r, q2⟩ => ⟨I2.kIn, ?_⟩) hst hpl
  exact run_fnS (us := .ref a :: us) (vs := .ref a :: vs) F hr hb (hx σ) I2 (.cons rfl r) q2
theorem px_meth0 {pl : Sem Bool} (G : OkD X.prog X.w X.K X.mg X.base d k ps sp) (hr : Room k X.A) (he : PE X o ta) (c : Cls X.K (He.ga X.K C)) (hm : Meth X.K (He.ga X.K C) m (He.fAd X.K d.at_)) (hx : ∀ σ, PassesAt (L2.CX X.prog X.w) X σ (E σ))
    (ht : eval (.Call (.Attribute o m apos) [] [] pos) X.env = (do
      let ov ← eval o X.env
      standAt apos.atName
      let (f, first) ← holding [ov] (getMethod ov m pl)
      callWith pos f first (backTo pos (starEach [] X.env)) (backToKw pos (keywordEach [] X.env))) := by rfl) :
    PE X (.Call (.Attribute o m apos) [] [] pos) (tMt (He.ga X.K C) m sp E ta tNil) := by
  obtain ⟨fd, ⟨hk, _⟩, ⟨hb, _⟩, F⟩ := G
  refine ⟨fun pins s σ H Q I h => ?_⟩
  refine PySem.W.methodCall_KW (pl := pl) (thn (he.run pins s σ H _ I h) fun u s1 ⟨x, H1, I1, rx, a, dx, fs, ex, ea, l, q⟩ => ?_) ht
  subst ex
  obtain rfl : u = Value.ref a := rx
  refine getmeth_ok I1 ea c hm l ?_
  exact PySem.W.callWith_K0 (first := [.ref a]) I1.kIn hm.kp (run_fnS (us := [.ref a]) (vs := [.ref a]) F hr hb (hx σ) I1 (.cons rfl .nil) q)
theorem run_makeS {C f : Addr} {fd : FuncData} {pins : List (Addr × Obj)} {σ : L2.St} {H : Hp} {s : Shared} {Q : VK} {us : List Value} {vs : List V} (M : Mk X.K C f) (F : FnOk X.prog X.w X.K X.mg X.base (L2.CX X.prog X.w) k f fd ps sp) (hr : Room (k + 1) X.A) (hb : Binds X.K fd ps [])
    (hx : PassesAt (L2.CX X.prog X.w) X σ (E σ)) (I : Inv X pins σ H s) (r : Vals vs us)
    (h : ∀ x dx, H x = none → H dx = none → dx ≠ x → sp (.ref x :: vs) (upd (upd H dx (.own x)) x (.ins C dx [])) (fun v H2 => v = .non ∧ Q (.ref x) H2) (E σ)) :
    wpAny (model X.prog X.w) X.A (call (.ref C) us) (EP X pins σ Q) X.xe s := by
  have hq := h (s.heap.objs.size + 1) s.heap.objs.size (I.hok.fresh (Nat.le_succ _)) (I.hok.fresh (Nat.le_refl _)) (Nat.ne_of_lt (Nat.lt_succ_self _))
  have I2 := Inv.made (C := C) I
  have r2 : Vals (V.ref (s.heap.objs.size + 1) :: vs) (Value.ref (s.heap.objs.size + 1) :: us) := .cons rfl r
  have hl : (Value.ref (s.heap.objs.size + 1) :: us).length = ps.length := by
    have e := r2.length
    rw [F.len _ _ _ _ hq] at e
    exact e.symm
  have b := hb _ (Value.ref (s.heap.objs.size + 1) :: us) I2.kIn (by rw [List.append_nil]; exact hl)
  rw [List.append_nil] at b
  refine wpAny_call (make_map (f := f) I.kIn M.makes M.init (beq_iff_eq.mp M.fn) (codeAny_mono (F.run _ X.stack _ _ ⟨Value.ref (s.heap.objs.size + 1) :: us, []⟩ (Value.ref (s.heap.objs.size + 1) :: us) _ _ (E σ) (hr.make C us [])
    (I2.env0.make C us []) b r2 hq) fun r s' hq' => ?_))
  cases r with
  | error e => exact hx pins _ _ e s' I2 hq'
  | ok fl =>
    cases fl with
    | ret u =>
      obtain ⟨v, H', I3, rv, ev, q3⟩ := I2.after hq'
      subst ev
      exact ⟨rv, ⟨V.ref (s.heap.objs.size + 1), H', I3, rfl, q3⟩⟩
    | next => exact False.elim hq'
    | brk => exact False.elim hq'
    | cont => exact False.elim hq'
theorem px_make {C : Addr} (G : OkD X.prog X.w X.K X.mg X.base d k ps sp) (hr : Room (k + 1) X.A) (M : Mk X.K C (He.fAd X.K d.at_)) (hg : Gl X x) (hm : X.mg x = some (.ref C)) (hx : ∀ σ, PassesAt (L2.CX X.prog X.w) X σ (E σ)) (ha : PA X (e :: es) t)
    (hdb : (x == ("__debug__" : Str)) = false := by decide) (he : starEach (e :: es) X.env = (false, eval e X.env) :: starEach es X.env := by rfl) (hpl : (backTo pos (starEach es X.env)).any (·.1) = false := by rfl) :
    PE X (.Call (.Name x p) (e :: es) [] pos) (tMk C sp E t) := by
  obtain ⟨fd, ⟨hk, _⟩, ⟨hb, _⟩, F⟩ := G
  refine ⟨fun pins s σ H Q I h => ?_⟩
  refine wpAny_Call_Name_kw (ld_glob I hg hm ?_ hdb)
  refine PySem.W.callWith_K (h₀ := X.base) I.ok.mod.kin M.kp (thn (ha.run pos pins s σ H _ I h) fun us s1 ⟨vs, H1, I1, r, q⟩ => ⟨I1.kIn, ?_⟩) he hpl
  exact run_makeS M F hr hb (hx σ) I1 r q
theorem px_make0 {C : Addr} (G : OkD X.prog X.w X.K X.mg X.base d k ps sp) (hr : Room (k + 1) X.A) (M : Mk X.K C (He.fAd X.K d.at_)) (hg : Gl X x) (hm : X.mg x = some (.ref C)) (hx : ∀ σ, PassesAt (L2.CX X.prog X.w) X σ (E σ))
    (hdb : (x == ("__debug__" : Str)) = false := by decide) :
    PE X (.Call (.Name x p) [] [] pos) (tMk C sp E tNil) := by
  obtain ⟨fd, ⟨hk, _⟩, ⟨hb, _⟩, F⟩ := G
  refine ⟨fun pins s σ H Q I h => ?_⟩
  refine wpAny_Call_Name_kw (ld_glob I hg hm ?_ hdb)
  exact PySem.W.callWith_K0 I.kIn M.kp (run_makeS (us := []) M F hr hb (hx σ) I .nil h)
/-- an int, a text of the module; a def, a class -/
theorem px_int {i : Int} (hg : Gl X x) (hm : ∃ t, X.mg x = some (.int i t)) (hd : (x == ("__debug__" : Str)) = false := by decide) : PE X (.Name x pos) (tC (.int i)) := by
  obtain ⟨t, hm⟩ := hm
  exact pe_glob hg hm ⟨t, rfl⟩ hd
theorem px_str {z : Str} (hg : Gl X x) (hm : ∃ t, X.mg x = some (.str z t)) (hd : (x == ("__debug__" : Str)) = false := by decide) : PE X (.Name x pos) (tC (.str z)) := by
  obtain ⟨t, hm⟩ := hm
  exact pe_glob hg hm ⟨t, rfl⟩ hd
theorem px_ref {a : Addr} (hg : Gl X x) (hm : X.mg x = some (.ref a)) (hd : (x == ("__debug__" : Str)) = false := by decide) : PE X (.Name x pos) (tC (.ref a)) := pe_glob hg hm rfl hd
/-- raise C('..') -/
def tRz (W : WX) (C : Addr) : TS := fun _ σ H => W (.ref C) none σ H
theorem px_raise {C : Addr} {W : WX} {ms : Str} {j : Nat} {p2 pos' : Pos} (hc : X.calm = true) (tk : Takes X W) (hg : Gl X x) (gC : X.mg x = some (.ref C))
    (xC : PySem.W.excIn X.K C He.veBase "ValueError.__new__" = true ∧ PySem.W.keepIn X.K (.ref C) = true ∧ PySem.W.subIn X.K (.ref C) (.type "BaseException") = some true ∧ PySem.W.typeIn X.K (.ref C) = some (.type "type"))
    (hdb : (x == ("__debug__" : Str)) = false := by decide) :
    PS X (.Raise (some (.Call (.Name x p) [.Constant (.str ms) j p2] [] pos)) none pos') (tRz W C) :=
  ps_raise hc tk (pmk_own PySem.F.excBase_ValueError xC.1 gC xC.2.1 (raises_own xC.2.2.1 xC.2.2.2) hg hdb)
end
end TR

set_option Elab.async false
set_option linter.all false
set_option maxRecDepth 100000
set_option maxHeartbeats 4000000
/-! The readings step by step, over assertions side by side. -/
namespace TR
open PySem PySem.Spec PyProof.Rows L2

/-! ### what is wanted behind a part, by names (so that it stays whole) -/
def kTest (QT : Bool → Hp → Prop) : VK := fun x H => ∃ k, x = .bl k ∧ QT k H
def kNot (QT : Bool → Hp → Prop) : Bool → Hp → Prop := fun c H => QT (!c) H
def kAnd (u : TT) (σ : L2.St) (QT : Bool → Hp → Prop) : Bool → Hp → Prop := fun c H => if c = true then u σ H QT else QT false H
def kOr (u : TT) (σ : L2.St) (QT : Bool → Hp → Prop) : Bool → Hp → Prop := fun c H => if c = true then QT true H else u σ H QT
def kOp2 (r : R2) (x : V) (Q : VK) : VK := fun y H => r x y H Q
def kOp1 (r : R2) (tb : TE) (σ : L2.St) (Q : VK) : VK := fun x H => tb σ H (kOp2 r x Q)
def kUn (r : V → Hp → VK → Prop) (Q : VK) : VK := fun x H => r x H Q
def kCh3 (r' : R2) (tc : TE) (σ : L2.St) (y : V) (Q : VK) : VK := fun z H => ∃ k, z = .bl k ∧ (if k = true then tc σ H (kOp2 r' y Q) else Q (.bl false) H)
def kCh2 (r r' : R2) (tc : TE) (σ : L2.St) (x : V) (Q : VK) : VK := fun y H => r x y H (kCh3 r' tc σ y Q)
def kCh1 (r r' : R2) (tb tc : TE) (σ : L2.St) (Q : VK) : VK := fun x H => tb σ H (kCh2 r r' tc σ x Q)
def kAndV (tb : TE) (σ : L2.St) (Q : VK) : VK := fun x H => ∃ c, x = .bl c ∧ if c = true then tb σ H Q else Q (.bl false) H
def kOrV (tb : TE) (σ : L2.St) (Q : VK) : VK := fun x H => ∃ c, x = .bl c ∧ if c = true then Q (.bl true) H else tb σ H Q
def kNotV (Q : VK) : VK := fun x H => ∃ c, x = .bl c ∧ Q (.bl (!c)) H
def kIfE (ta tb : TE) (σ : L2.St) (Q : VK) : Bool → Hp → Prop := fun c H => if c = true then ta σ H Q else tb σ H Q
def kIfS (t u : TS) (D : Ends) (σ : L2.St) : Bool → Hp → Prop := fun c H => if c = true then t D σ H else u D σ H
def kTru (K : PySem.W.Frag) (QT : Bool → Hp → Prop) : VK := fun x H => ∃ k, TruV K x H k ∧ QT k H
def kC2 (x : V) (QA : List V → Hp → Prop) : List V → Hp → Prop := fun xs H => QA (x :: xs) H
def kC1 (tr : TA) (σ : L2.St) (QA : List V → Hp → Prop) : VK := fun x H => tr σ H (kC2 x QA)
def kCb (r : List V → Hp → VK → Prop) (Q : VK) : List V → Hp → Prop := fun vs H => r vs H Q
def kSp (sp : Sp) (E : XK) (Q : VK) : List V → Hp → Prop := fun vs H => sp vs H Q E
def kMt2 (sp : Sp) (E : XK) (x : V) (Q : VK) : List V → Hp → Prop := fun vs H => sp (x :: vs) H Q E
def kMt (C : Addr) (m : Str) (sp : Sp) (E : XK) (tr : TA) (σ : L2.St) (Q : VK) : VK := fun x H => ∃ a dx fs, x = .ref a ∧ H a = some (.ins C dx fs) ∧ fs.lookup m = none ∧ tr σ H (kMt2 sp E x Q)
def kMq (x : Addr) (Q : VK) : VK := fun v H => v = .non ∧ Q (.ref x) H
def kMk (C : Addr) (sp : Sp) (E : XK) (Q : VK) : List V → Hp → Prop := fun vs H => ∀ x dx, H x = none → H dx = none → dx ≠ x → sp (.ref x :: vs) (upd (upd H dx (.own x)) x (.ins C dx [])) (kMq x Q) E
def kLst (Q : VK) : List V → Hp → Prop := fun xs H => xs.length ≤ sizeLine ∧ ∀ p, H p = none → Q (.ref p) (upd H p (.lst xs))
def kTup (Q : VK) : List V → Hp → Prop := fun xs H => xs.length ≤ sizeLine ∧ ∀ p, H p = none → Q (.ref p) (upd H p (.tup xs))
def kFld (K : PySem.W.Frag) (f : Str) (Q : VK) : VK := fun x H => ∃ a C dx fs v, x = .ref a ∧ H a = some (.ins C dx fs) ∧ Cls K C ∧ NoAttr K C f ∧ fs.lookup f = some v ∧ Q v H
def kPut (K : PySem.W.Frag) (f : Str) (y : V) (D : Ends) (σ : L2.St) : VK := fun x H => ∃ a C dx fs, x = .ref a ∧ H a = some (.ins C dx fs) ∧ Cls K C ∧ NoAttr K C f ∧ fs.length < 1000 ∧ D.nx σ (upd H a (.ins C dx (putF f y fs)))
def kSf (K : PySem.W.Frag) (ta : TE) (f : Str) (D : Ends) (σ : L2.St) : VK := fun y H => ta σ H (kPut K f y D σ)
def kAsg (g : TG) (D : Ends) (σ : L2.St) : VK := fun x H => g x σ H D.nx
def kDrop (D : Ends) (σ : L2.St) : VK := fun _ H => D.nx σ H
def kBM (K : PySem.W.Frag) (T : String) (r : V → List V → Hp → VK → Prop) (tr : TA) (σ : L2.St) (Q : VK) : VK := fun x H => tyV K T x H ∧ tr σ H fun xs H2 => r x xs H2 Q
def kBM0 (K : PySem.W.Frag) (T : String) (r : V → List V → Hp → VK → Prop) (Q : VK) : VK := fun x H => tyV K T x H ∧ r x [] H Q
def kBq (r : V → List V → Hp → VK → Prop) (x : V) (Q : VK) : List V → Hp → Prop := fun xs H => r x xs H Q
def kSb2 (g : TSet) (o v : V) (QS : L2.St → Hp → Prop) (σ : L2.St) : VK := fun i H => g o i v H (QS σ)
def kSb1 (ti : TE) (g : TSet) (v : V) (QS : L2.St → Hp → Prop) (σ : L2.St) : VK := fun o H => ti σ H (kSb2 g o v QS σ)
def kG (tg : TGs) (xs : List V) (QS : L2.St → Hp → Prop) : L2.St → Hp → Prop := fun σ H => tg xs σ H QS
def kRev (K : PySem.W.Frag) (Q : VK) : VK := fun x H => ∃ a xs, x = .ref a ∧ SqL K H a xs ∧ ∀ p, H p = none → Q (.ref p) (upd H p (.lst xs.reverse))
def kSl3 (r : V → Option Int → Option Int → Hp → VK → Prop) (x : V) (lo : Option Int) (Q : VK) : Option Int → Hp → Prop := fun u H => r x lo u H Q
def kSl2 (r : V → Option Int → Option Int → Hp → VK → Prop) (th : TO) (σ : L2.St) (x : V) (Q : VK) : Option Int → Hp → Prop := fun l H => th σ H (kSl3 r x l Q)
def kSl1 (r : V → Option Int → Option Int → Hp → VK → Prop) (tl th : TO) (σ : L2.St) (Q : VK) : VK := fun x H => tl σ H (kSl2 r th σ x Q)
def kPart (QO : Option Int → Hp → Prop) : VK := fun x H => ∃ i, x = .int i ∧ QO (some i) H
/-- a value's truth, as a test -/
def tTru (K : PySem.W.Frag) (ta : TE) : TT := fun σ H QT => ta σ H (kTru K QT)
theorem px_truth {X : Cx} {a : Expr} {ta : TE} (ha : PE X a ta) (he : ∀ whole, isTrue a X.env whole = (do let v ← whole; standAt a.pos; holding [v] (truthy v))) : PT X a (tTru X.K ta) := pt_truth ha he

section
variable {K : PySem.W.Frag} {σ : L2.St} {H : Hp} {i : Nat} {v x y z : V} {ta tb tc te tv to ti : TE} {tA tB' : TT} {t u : TS} {D : Ends} {Q : VK} {p : Addr} {L R : List As} {QT : Bool → Hp → Prop} {QA : List V → Hp → Prop} {QS : L2.St → Hp → Prop}

/-! ### expressions -/
theorem x_var (h : σ[i]? = some (some v)) (q : Q v H) : tVar i σ H Q := ⟨v, h, q⟩
theorem x_c (q : Q v H) : tC v σ H Q := q
theorem x_op {r : R2} (q : ta σ H (kOp1 r tb σ Q)) : tOp r ta tb σ H Q := q
theorem y_op1 {r : R2} (q : tb σ H (kOp2 r x Q)) : kOp1 r tb σ Q x H := q
theorem y_op2 {r : R2} (q : r x y H Q) : kOp2 r x Q y H := q
theorem x_un {r : V → Hp → VK → Prop} (q : ta σ H (kUn r Q)) : tUn r ta σ H Q := q
theorem y_neg {i : Int} (q : Q (.int (-i)) H) : kUn (rU fun i => .int (-i)) Q (.int i) H := ⟨i, rfl, q⟩
theorem x_I0 {g : Int → Int → V} {i j : Int} (q : Q (g i j) H) : rI0 g (.int i) (.int j) H Q := ⟨i, j, rfl, rfl, q⟩
theorem x_I {C : Int → Int → Prop} {g : Int → Int → V} {i j : Int} (c : C i j) (q : Q (g i j) H) : rI C g (.int i) (.int j) H Q := ⟨i, j, rfl, rfl, c, q⟩
theorem x_if (q : tA σ H (kIfE ta tb σ Q)) : tIf tA ta tb σ H Q := q
theorem y_ifE {c : Bool} (q : if c = true then ta σ H Q else tb σ H Q) : kIfE ta tb σ Q c H := q
theorem x_nil (q : QA [] H) : tNil σ H QA := q
theorem x_cons {tr : TA} (q : ta σ H (kC1 tr σ QA)) : tCons ta tr σ H QA := q
theorem y_c1 {tr : TA} (q : tr σ H (kC2 x QA)) : kC1 tr σ QA x H := q
theorem y_c2 {xs : List V} (q : QA (x :: xs) H) : kC2 x QA xs H := q
theorem x_cb {r : List V → Hp → VK → Prop} {tr : TA} (q : tr σ H (kCb r Q)) : tCB r tr σ H Q := q
theorem y_cb {r : List V → Hp → VK → Prop} {vs : List V} (q : r vs H Q) : kCb r Q vs H := q

/-! ### tests -/
theorem x_test (q : te σ H (kTest QT)) : tTest te σ H QT := q
theorem x_tB (q : te σ H (kTest QT)) : tB te σ H QT := q
theorem y_test {b : Bool} (q : QT b H) : kTest QT (.bl b) H := ⟨b, rfl, q⟩
theorem x_not (q : tA σ H (kNot QT)) : tNot tA σ H QT := q
theorem y_not {c : Bool} (q : QT (!c) H) : kNot QT c H := q
theorem x_and (q : tA σ H (kAnd tB' σ QT)) : tAnd tA tB' σ H QT := q
theorem y_and {c : Bool} (q : if c = true then tB' σ H QT else QT false H) : kAnd tB' σ QT c H := q
theorem x_or (q : tA σ H (kOr tB' σ QT)) : tOr tA tB' σ H QT := q
theorem y_or {c : Bool} (q : if c = true then QT true H else tB' σ H QT) : kOr tB' σ QT c H := q
theorem x_chain {r r' : R2} (q : ta σ H (kCh1 r r' tb tc σ Q)) : tChain r r' ta tb tc σ H Q := q
theorem y_ch1 {r r' : R2} (q : tb σ H (kCh2 r r' tc σ x Q)) : kCh1 r r' tb tc σ Q x H := q
theorem y_ch2 {r r' : R2} (q : r x y H (kCh3 r' tc σ y Q)) : kCh2 r r' tc σ x Q y H := q
theorem y_ch3 {r' : R2} {k : Bool} (q : if k = true then tc σ H (kOp2 r' y Q) else Q (.bl false) H) : kCh3 r' tc σ y Q (.bl k) H := ⟨k, rfl, q⟩
theorem x_andV (q : ta σ H (kAndV tb σ Q)) : tAndV ta tb σ H Q := q
theorem y_andV {c : Bool} (q : if c = true then tb σ H Q else Q (.bl false) H) : kAndV tb σ Q (.bl c) H := ⟨c, rfl, q⟩
theorem x_orV (q : ta σ H (kOrV tb σ Q)) : tOrV ta tb σ H Q := q
theorem y_orV {c : Bool} (q : if c = true then Q (.bl true) H else tb σ H Q) : kOrV tb σ Q (.bl c) H := ⟨c, rfl, q⟩
theorem x_notV (q : ta σ H (kNotV Q)) : tNotV ta σ H Q := q
theorem y_notV {c : Bool} (q : Q (.bl (!c)) H) : kNotV Q (.bl c) H := ⟨c, rfl, q⟩
theorem x_tt {A B : Prop} (a : A) : if true = true then A else B := by
  rw [if_pos rfl]
  exact a
theorem x_ff {A B : Prop} (b : B) : if false = true then A else B := by
  rw [if_neg Bool.false_ne_true]
  exact b
theorem x_dec {φ : Prop} [d : Decidable φ] {A B : Prop} (a : φ → A) (b : ¬ φ → B) : if decide φ = true then A else B := by
  by_cases h : φ
  · rw [if_pos (decide_eq_true h)]
    exact a h
  · rw [if_neg (by rw [decide_eq_false h]; exact Bool.false_ne_true)]
    exact b h
theorem x_ndec {φ : Prop} [d : Decidable φ] {A B : Prop} (a : ¬ φ → A) (b : φ → B) : if (!decide φ) = true then A else B := by
  by_cases h : φ
  · rw [decide_eq_true h, if_neg (by decide)]
    exact b h
  · rw [decide_eq_false h, if_pos (by decide)]
    exact a h
theorem x_bool {c : Bool} {A B : Prop} (a : c = true → A) (b : c = false → B) : if c = true then A else B := by
  cases c with
  | true => exact x_tt (a rfl)
  | false => exact x_ff (b rfl)
theorem x_nbool {c : Bool} {A B : Prop} (a : c = false → A) (b : c = true → B) : if (!c) = true then A else B := by
  cases c with
  | true => exact x_ff (b rfl)
  | false => exact x_tt (a rfl)
theorem x_yes {c : Bool} {A B : Prop} (h : c = true) (a : A) : if c = true then A else B := by
  rw [if_pos h]
  exact a
theorem x_no {c : Bool} {A B : Prop} (h : c = false) (b : B) : if c = true then A else B := by
  rw [if_neg (by rw [h]; exact Bool.false_ne_true)]
  exact b
theorem x_nt {A B : Prop} (a : A) : if (!false) = true then A else B := x_tt a
theorem x_nf {A B : Prop} (b : B) : if (!true) = true then A else B := x_ff b
/-- a value's truth -/
theorem x_tru (q : ta σ H (kTru K QT)) : tTru K ta σ H QT := q
theorem y_trub {b : Bool} (q : QT b H) : kTru K QT (.bl b) H := ⟨b, rfl, q⟩
theorem y_trui {i : Int} (q : QT (i != 0) H) : kTru K QT (.int i) H := ⟨_, rfl, q⟩
theorem y_trun (q : QT false H) : kTru K QT .non H := ⟨_, rfl, q⟩
theorem y_trul {xs : List V} (h : SqL K H p xs) (q : QT (!xs.isEmpty) H) : kTru K QT (.ref p) H := ⟨_, .inl ⟨xs, h, rfl⟩, q⟩

/-! ### statements -/
theorem x_seq (q : t { D with nx := u D } σ H) : tSeq t u D σ H := q
theorem x_next (q : D.nx σ H) : tNext D σ H := q
theorem x_asg {g : TG} (q : te σ H (kAsg g D σ)) : tAsg te g D σ H := q
theorem y_asg {g : TG} (q : g x σ H D.nx) : kAsg g D σ x H := q
theorem x_name (q : QS (σ.set i (some v)) H) : gName i v σ H QS := q
theorem x_drop (q : te σ H (kDrop D σ)) : tDrop te D σ H := q
theorem y_drop (q : D.nx σ H) : kDrop D σ x H := q
theorem x_ret (q : te σ H D.rt) : tRet te D σ H := q
theorem x_retN (q : D.rt .non H) : tRetN D σ H := q
theorem x_ifS {c : TT} (q : c σ H (kIfS t u D σ)) : tIfS c t u D σ H := q
theorem y_ifS {c : Bool} (q : if c = true then t D σ H else u D σ H) : kIfS t u D σ c H := q
theorem x_cont (q : D.ct σ H) : tCont D σ H := q
theorem x_brk (q : D.bk σ H) : tBreak D σ H := q

/-! ### objects -/
class Fd (fs : List (Str × V)) (f : Str) (v : outParam V) : Prop where
  look : fs.lookup f = some v
  len : fs.length < 1000
class Fp (fs : List (Str × V)) (f : Str) (v : V) (fs' : outParam (List (Str × V))) : Prop where
  put : putF f v fs = fs'
  len : fs.length < 1000
class Fn (fs : List (Str × V)) (m : Str) : Prop where
  none : fs.lookup m = none
class FldI (K : PySem.W.Frag) (C : Addr) (f : Str) : Prop where
  cl : Cls K C
  na : NoAttr K C f
theorem x_fld {f : Str} (q : ta σ H (kFld K f Q)) : tFld K ta f σ H Q := q
theorem y_fld {f : Str} {C dx : Addr} {fs : List (Str × V)} (hS : Sep L H) [a : At p L (.ins C dx fs) R] [i : FldI K C f] [w : Fd fs f v] (q : Q v H) : kFld K f Q (.ref p) H :=
  ⟨p, C, dx, fs, v, rfl, hS.at_, i.cl, i.na, w.look, q⟩
theorem x_sfld {f : Str} (q : tv σ H (kSf K ta f D σ)) : sFld K ta tv f D σ H := q
theorem y_sf {f : Str} (q : ta σ H (kPut K f y D σ)) : kSf K ta f D σ y H := q
theorem y_put {f : Str} {C dx : Addr} {fs fs' : List (Str × V)} (hS : Sep L H) [a : At p L (.ins C dx fs) R] [i : FldI K C f] [w : Fp fs f y fs'] (q : ∀ H', Sep (pt p (.ins C dx fs') :: R) H' → D.nx σ H') : kPut K f y D σ (.ref p) H :=
  ⟨p, C, dx, fs, rfl, hS.at_, i.cl, i.na, w.len, by rw [w.put]; exact q _ (Sep.put (o := .ins C dx fs) (fun z => z) (a.en H hS))⟩
theorem x_meth {C : Addr} {m : Str} {sp : Sp} {E : L2.St → XK} {tr : TA} (q : ta σ H (kMt C m sp (E σ) tr σ Q)) : tMt C m sp E ta tr σ H Q := q
/-- at p an instance of the class at C, of these fields -/
class IsOb (A : As) (p : Addr) (C : outParam Addr) (nm : outParam (List Str)) : Prop where
  ob : ∀ h, A h → ∃ dx vs, h p = some (.ins C dx (nm.zip vs))
instance {p C dx : Addr} {nm : List Str} {vs : List V} : IsOb (pt p (.ins C dx (nm.zip vs))) p C nm := ⟨fun h a => ⟨dx, vs, a⟩⟩
class NotF (nm : List Str) (m : Str) : Prop where
  no : m ∉ nm
theorem look_none : ∀ {nm : List Str} {vs : List V} {f : Str}, f ∉ nm → (nm.zip vs).lookup f = none
  | [], _, _, _ => by simp [List.lookup]
  | _ :: _, [], _, _ => by simp [List.lookup]
  | g :: nm, x :: vs, f, h => by
    have ne : (f == g) = false := beq_eq_false_iff_ne.mpr fun e => h (by rw [e]; exact List.mem_cons_self)
    show List.lookup f ((g, x) :: nm.zip vs) = none
    rw [List.lookup_cons, ne]
    exact look_none fun z => h (List.mem_cons_of_mem _ z)
theorem y_meth {C : Addr} {m : Str} {nm : List Str} {A : As} {sp : Sp} {E : XK} {tr : TA} (hS : Sep L H) [a : AtA p L A R] [o : IsOb A p C nm] [w : NotF nm m] (q : tr σ H (kMt2 sp E (.ref p) Q)) : kMt C m sp E tr σ Q (.ref p) H := by
  obtain ⟨h1, h2, s1, s2, d, ha, r⟩ := a.en H hS
  obtain ⟨dx, vs, e⟩ := o.ob h1 ha
  exact ⟨p, dx, _, rfl, s1 _ _ e, look_none w.no, q⟩
theorem y_mt2 {sp : Sp} {E : XK} {vs : List V} (q : sp (x :: vs) H Q E) : kMt2 sp E x Q vs H := q
theorem x_callS {sp : Sp} {E : L2.St → XK} {tr : TA} (q : tr σ H (kSp sp (E σ) Q)) : tCallS sp E tr σ H Q := q
theorem y_sp {sp : Sp} {E : XK} {vs : List V} (q : sp vs H Q E) : kSp sp E Q vs H := q
theorem x_make {C : Addr} {sp : Sp} {E : L2.St → XK} {tr : TA} (q : tr σ H (kMk C sp (E σ) Q)) : tMk C sp E tr σ H Q := q
theorem y_mk {C : Addr} {sp : Sp} {E : XK} {vs : List V} (hS : Sep L H) (q : ∀ x dx H', Sep (pt x (.ins C dx []) :: L) H' → sp (.ref x :: vs) H' (kMq x Q) E) : kMk C sp E Q vs H := fun x dx nx nd ne =>
  q x dx _ (Sep.new (by rw [upd_ne (Ne.symm ne)]; exact nx) (Sep.newd nd hS))
theorem y_mq (q : Q (.ref p) H) : kMq p Q .non H := ⟨rfl, q⟩
theorem x_rz {W : WX} {C : Addr} (q : W (.ref C) none σ H) : tRz W C D σ H := q

/-! ### lists, tuples -/
theorem x_lst {tr : TA} (q : tr σ H (kLst Q)) : tLst tr σ H Q := q
theorem y_lst {xs : List V} (hS : Sep L H) (h : xs.length ≤ sizeLine) (q : ∀ p H', Sep (pt p (.lst xs) :: L) H' → Q (.ref p) H') : kLst Q xs H := ⟨h, fun p hp => q p _ (Sep.new hp hS)⟩
theorem x_tup {tr : TA} (q : tr σ H (kTup Q)) : tTup tr σ H Q := q
theorem y_tup {xs : List V} (hS : Sep L H) (h : xs.length ≤ sizeLine) (q : ∀ p H', Sep (pt p (.tup xs) :: L) H' → Q (.ref p) H') : kTup Q xs H := ⟨h, fun p hp => q p _ (Sep.new hp hS)⟩
/-- a list that may be read: tracked, known, or of the module -/
theorem sqL {xs : List V} (hS : Sep L H) [a : At p L (.lst xs) R] : SqL K H p xs := .of hS.at_
theorem sqT {xs : List V} (hS : Sep L H) [a : At p L (.tup xs) R] : SqT K H p xs := .of hS.at_
/-- the list at p is to be read -/
def Li (K : PySem.W.Frag) (p : Addr) (xs : List V) : As := fun h => SqL K h p xs
theorem Rd.sb {H H' : Hp} {a : Addr} {u : HO} (s : Sb H H') (r : Rd H a u) : Rd H' a u := by
  rcases r with r | ⟨o, r⟩
  · exact .inl (s _ _ r)
  · exact .inr ⟨o, s _ _ r⟩
theorem SqL.sb {H H' : Hp} {a : Addr} {xs : List V} (s : Sb H H') (r : SqL K H a xs) : SqL K H' a xs := by
  rcases r with r | r
  · exact .inl (Rd.sb s r)
  · exact .inr r
theorem SqT.sb {H H' : Hp} {a : Addr} {xs : List V} (s : Sb H H') (r : SqT K H a xs) : SqT K H' a xs := by
  rcases r with r | r
  · exact .inl (Rd.sb s r)
  · exact .inr r
theorem Sep.li {xs : List V} (h : Sep (Li K p xs :: R) H) : SqL K H p xs := by
  obtain ⟨h1, h2, s1, s2, d, a, r⟩ := h
  exact SqL.sb s1 a
theorem Sep.liOf {xs : List V} (h : Sep L H) [a : Pk (Li K p xs) L R] : SqL K H p xs := (h.to (A := Li K p xs)).li
/-- xs[i] -/
theorem x_ixL {xs : List V} {i : Int} (h : SqL K H p xs) (e : atI xs i = some v) (q : Q v H) : rIx K (.ref p) (.int i) H Q := .inl ⟨p, xs, i, v, rfl, rfl, h, e, q⟩
theorem x_ixT {xs : List V} {i : Int} (h : SqT K H p xs) (e : atI xs i = some v) (q : Q v H) : rIx K (.ref p) (.int i) H Q := .inr (.inl ⟨p, xs, i, v, rfl, rfl, h, e, q⟩)
theorem atI_some {α : Type} {xs : List α} {i : Int} {v : α} (h0 : 0 ≤ i) (h : xs[i.toNat]? = some v) : atI xs i = some v := by
  have e : i = ((i.toNat : Nat) : Int) := by omega
  rw [e]
  exact atI_nat h
theorem ixN_some {n : Nat} {i : Int} (h0 : 0 ≤ i) (h1 : i < n) : ixN n i = some i.toNat := by
  unfold ixN
  rw [if_pos h0, if_pos h1]
/-- xs[i] = v -/
theorem x_sub {g : TSet} (q : to σ H (kSb1 ti g v QS σ)) : gSub to ti g v σ H QS := q
theorem y_sb1 {g : TSet} {o : V} (q : ti σ H (kSb2 g o v QS σ)) : kSb1 ti g v QS σ o H := q
theorem y_setL {xs : List V} {i : Int} {j : Nat} (hS : Sep L H) [a : At p L (.lst xs) R] (e : ixN xs.length i = some j) (q : ∀ H', Sep (pt p (.lst (xs.set j v)) :: R) H' → QS σ H') : kSb2 rSetL (.ref p) v QS σ (.int i) H :=
  ⟨p, xs, i, j, rfl, rfl, hS.at_, e, q _ (Sep.put (o := .lst xs) (fun z => z) (a.en H hS))⟩
/-- a built-in's method -/
theorem x_bm {T : String} {r : V → List V → Hp → VK → Prop} {tr : TA} (q : to σ H (kBM K T r tr σ Q)) : tBM K T r to tr σ H Q := q
theorem y_bm {T : String} {r : V → List V → Hp → VK → Prop} {tr : TA} (h : tyV K T x H) (q : tr σ H (kBq r x Q)) : kBM K T r tr σ Q x H := ⟨h, q⟩
theorem y_bml {xs : List V} {r : V → List V → Hp → VK → Prop} {tr : TA} (h : SqL K H p xs) (q : tr σ H (kBq r (.ref p) Q)) : kBM K "list" r tr σ Q (.ref p) H := ⟨.inl ⟨rfl, _, h⟩, q⟩
theorem y_bq {r : V → List V → Hp → VK → Prop} {xs : List V} (q : r x xs H Q) : kBq r x Q xs H := q
theorem x_bm0 {T : String} {r : V → List V → Hp → VK → Prop} (q : to σ H (kBM0 K T r Q)) : tBM0 K T r to σ H Q := q
theorem y_bml0 {xs : List V} {r : V → List V → Hp → VK → Prop} (h : SqL K H p xs) (q : r (.ref p) [] H Q) : kBM0 K "list" r Q (.ref p) H := ⟨.inl ⟨rfl, _, h⟩, q⟩
theorem x_append {xs : List V} (hS : Sep L H) [a : At p L (.lst xs) R] (e : xs.length < sizeLine) (q : ∀ H', Sep (pt p (.lst (xs ++ [v])) :: R) H' → Q .non H') : rAppend (.ref p) [v] H Q :=
  ⟨p, xs, v, rfl, rfl, hS.at_, e, q _ (Sep.put (o := .lst xs) (fun z => z) (a.en H hS))⟩
/-- list(xs) -/
def rListOf (K : PySem.W.Frag) : List V → Hp → VK → Prop := fun xs H Q => ∃ p ys, xs = [.ref p] ∧ (SqL K H p ys ∨ SqT K H p ys) ∧ ∀ l, H l = none → Q (.ref l) (upd H l (.lst ys))
theorem call_listOf {X : Cx} : CallR X (.type "list") (rListOf X.K) := call_list_of
theorem x_listOf {xs : List V} (hS : Sep L H) (h : SqL K H p xs) (q : ∀ l H', Sep (pt l (.lst xs) :: L) H' → Q (.ref l) H') : rListOf K [.ref p] H Q := ⟨p, xs, rfl, .inl h, fun l hl => q l _ (Sep.new hl hS)⟩
/-- len -/
def rLen (K : PySem.W.Frag) : List V → Hp → VK → Prop := fun xs H Q => ∃ x n, xs = [x] ∧ LenV K x H n ∧ Q (.int (n : Nat)) H
theorem call_lenA {X : Cx} : CallR X (.builtin "len") (rLen X.K) := call_len
theorem x_lenL {xs : List V} (h : SqL K H p xs) (q : Q (.int (xs.length : Nat)) H) : rLen K [.ref p] H Q := ⟨_, _, rfl, .inl ⟨xs, h, rfl⟩, q⟩
/-- ==, != : scalars, or data -/
def rEqA (K : PySem.W.Frag) : R2 := fun x y H Q => rEq x y H Q ∨ rEqD K x y H Q
def rNeA (K : PySem.W.Frag) : R2 := fun x y H Q => rNe x y H Q ∨ rNeD K x y H Q
theorem op_eqA {X : Cx} (hu : X.A.units + 64 < cLine) : OpR X (compareOp .Eq) (rEqA X.K) := op_eq.or (op_eqD hu)
theorem op_neA {X : Cx} (hu : X.A.units + 64 < cLine) : OpR X (compareOp .NotEq) (rNeA X.K) := op_ne.or (op_neD hu)
theorem dec_V {i j : Int} : decide (V.int i = V.int j) = decide (i = j) := by simp
theorem x_eqI {i j : Int} (q : Q (.bl (decide (i = j))) H) : rEqA K (.int i) (.int j) H Q := .inl ⟨rfl, by rw [dec_V]; exact q⟩
theorem x_neI {i j : Int} (q : Q (.bl (!decide (i = j))) H) : rNeA K (.int i) (.int j) H Q := .inl ⟨rfl, by rw [dec_V]; exact q⟩
theorem x_eqS (h : scal x y = true) (q : Q (.bl (decide (x = y))) H) : rEqA K x y H Q := .inl ⟨h, q⟩
theorem x_neS (h : scal x y = true) (q : Q (.bl (!decide (x = y))) H) : rNeA K x y H Q := .inl ⟨h, q⟩
theorem x_eqD {d e : PyData} (hd : Dp K H x d) (he : Dp K H y e) (sd : SeqAt.shaped d = true) (se : SeqAt.shaped e = true) (q : Q (.bl (PyData.eqv d e)) H) : rEqA K x y H Q := .inr ⟨d, e, hd, he, sd, se, q⟩
theorem x_neD {d e : PyData} (hd : Dp K H x d) (he : Dp K H y e) (sd : SeqAt.shaped d = true) (se : SeqAt.shaped e = true) (q : Q (.bl (!PyData.eqv d e)) H) : rNeA K x y H Q := .inr ⟨d, e, hd, he, sd, se, q⟩
/-- is None -/
def rIsN : R2 := fun x y H Q => y = .non ∧ Q (.bl (decide (x = .non))) H
def rNotN : R2 := fun x y H Q => y = .non ∧ Q (.bl (!decide (x = .non))) H
theorem op_isN1 {X : Cx} : OpR X (compareOp .Is) rIsN := op_isN
theorem op_notN1 {X : Cx} : OpR X (compareOp .IsNot) rNotN := op_notN
theorem x_isN (q : Q (.bl (decide (x = .non))) H) : rIsN x .non H Q := ⟨rfl, q⟩
theorem x_notN (q : Q (.bl (!decide (x = .non))) H) : rNotN x .non H Q := ⟨rfl, q⟩
/-- several targets -/
theorem x_gtup {n : Nat} {tg : TGs} {xs : List V} (h : SqT K H p xs) (e : xs.length = n) (q : tg xs σ H QS) : gTup K n tg (.ref p) σ H QS := ⟨p, xs, rfl, h, e, q⟩
theorem x_gcons {g : TG} {tg : TGs} {xs : List V} (q : g x σ H (kG tg xs QS)) : gCons g tg (x :: xs) σ H QS := ⟨x, xs, rfl, q⟩
theorem y_g {tg : TGs} {xs : List V} (q : tg xs σ H QS) : kG tg xs QS σ H := q
theorem x_gnil (q : QS σ H) : gNil [] σ H QS := ⟨rfl, q⟩
/-- xs[::-1], slices -/
theorem x_rev (q : te σ H (kRev K Q)) : tRevL K te σ H Q := q
theorem y_rev {xs : List V} (hS : Sep L H) (h : SqL K H p xs) (q : ∀ l H', Sep (pt l (.lst xs.reverse) :: L) H' → Q (.ref l) H') : kRev K Q (.ref p) H := ⟨p, xs, rfl, h, fun l hl => q l _ (Sep.new hl hS)⟩
theorem x_sl {r : V → Option Int → Option Int → Hp → VK → Prop} {tl th : TO} (q : te σ H (kSl1 r tl th σ Q)) : tSl r te tl th σ H Q := q
theorem y_sl1 {r : V → Option Int → Option Int → Hp → VK → Prop} {tl th : TO} (q : tl σ H (kSl2 r th σ x Q)) : kSl1 r tl th σ Q x H := q
theorem y_sl2 {r : V → Option Int → Option Int → Hp → VK → Prop} {th : TO} {l : Option Int} (q : th σ H (kSl3 r x l Q)) : kSl2 r th σ x Q l H := q
theorem y_sl3 {r : V → Option Int → Option Int → Hp → VK → Prop} {l u : Option Int} (q : r x l u H Q) : kSl3 r x l Q u H := q
theorem x_nop {QO : Option Int → Hp → Prop} (q : QO none H) : tNoPart σ H QO := q
theorem x_part {QO : Option Int → Hp → Prop} (q : te σ H (kPart QO)) : tPart te σ H QO := q
theorem y_part {QO : Option Int → Hp → Prop} {i : Int} (q : QO (some i) H) : kPart QO (.int i) H := ⟨i, rfl, q⟩
theorem x_slL {xs : List V} {lo hi : Option Int} (hS : Sep L H) (h : SqL K H p xs) (q : ∀ l H', Sep (pt l (.lst (cutV xs lo hi)) :: L) H' → Q (.ref l) H') : rSlL K (.ref p) lo hi H Q := ⟨p, xs, rfl, h, fun l hl => q l _ (Sep.new hl hS)⟩

/-! ### loops -/
/-- for k in range(n): P i, the state behind i turns -/
def kRg1 (g : TG) (t : TS) (D : Ends) (σ : L2.St) : List V → Hp → Prop := fun vs H => ∃ j : Int, vs = [.int j] ∧ -(2 ^ 62) ≤ j ∧ j < 2 ^ 62 ∧ ∃ W : Nat → Nat → L2.St → Hp → Prop, (∃ m, W 0 m σ H) ∧ ∀ i m σ H, W i m σ H →
  ((Itr 0 j.toNat).stop i H ∧ D.nx σ H) ∨ ((Itr 0 j.toNat).go i H ∧ ∃ N : L2.St → Hp → Prop, (∀ σ' H', N σ' H' → ∃ m', m' < m ∧ W (i + 1) m' σ' H') ∧ ∀ x H', (Itr 0 j.toNat).yld i H x H' → g x σ H' fun σ2 H2 => t { D with nx := N, ct := N, bk := D.nx } σ2 H2)
theorem x_for1 {ta : TA} {g : TG} (q : ta σ H (kRg1 g t D σ)) : tFor (iRng1 ta) g t D σ H := q
def kBody (t : TS) (D : Ends) (N : L2.St → Hp → Prop) : L2.St → Hp → Prop := fun σ H => t { D with nx := N, ct := N, bk := D.nx } σ H
theorem y_for1 {n : Nat} {g : TG} (P : Nat → L2.St → Hp → Prop) (hn : n ≤ 1000000) (h0 : P 0 σ H) (hs : ∀ i σ H, i < n → P i σ H → g (.int (i : Nat)) σ H (kBody t D (P (i + 1)))) (hd : ∀ σ H, P n σ H → D.nx σ H) : kRg1 g t D σ [.int (n : Nat)] H :=
  ⟨n, rfl, by omega, by omega, by
    rw [Int.toNat_natCast]
    exact for_range (lo := 0) P h0 (fun i σ H hi p => by rw [Int.zero_add]; exact hs i σ H hi p) hd⟩
theorem y_body {N : L2.St → Hp → Prop} (q : t { D with nx := N, ct := N, bk := D.nx } σ H) : kBody t D N σ H := q
/-- for x in a list -/
def kFl (K : PySem.W.Frag) (g : TG) (t : TS) (D : Ends) (σ : L2.St) : VK := fun x H => ∃ a, x = .ref a ∧ (∃ xs, SqL K H a xs) ∧ ∃ W : Nat → Nat → L2.St → Hp → Prop, (∃ m, W 0 m σ H) ∧ ∀ i m σ H, W i m σ H →
  ((Itl K a).stop i H ∧ D.nx σ H) ∨ ((Itl K a).go i H ∧ ∃ N : L2.St → Hp → Prop, (∀ σ' H', N σ' H' → ∃ m', m' < m ∧ W (i + 1) m' σ' H') ∧ ∀ x H', (Itl K a).yld i H x H' → g x σ H' fun σ2 H2 => t { D with nx := N, ct := N, bk := D.nx } σ2 H2)
theorem x_forL {g : TG} (q : te σ H (kFl K g t D σ)) : tFor (iList K te) g t D σ H := q
theorem y_forL {xs : List V} {g : TG} (P : Nat → L2.St → Hp → Prop) (hx : SqL K H p xs) (h0 : P 0 σ H) (hl : ∀ i σ H, i ≤ xs.length → P i σ H → SqL K H p xs) (hs : ∀ i x σ H, xs[i]? = some x → P i σ H → g x σ H (kBody t D (P (i + 1)))) (hd : ∀ σ H, P xs.length σ H → D.nx σ H) :
    kFl K g t D σ (.ref p) H := ⟨p, rfl, ⟨xs, hx⟩, for_list P h0 hl hs hd⟩
/-- for x in a tuple -/
def kFt (K : PySem.W.Frag) (g : TG) (t : TS) (D : Ends) (σ : L2.St) : VK := fun x H => ∃ a, x = .ref a ∧ (∃ xs, SqT K H a xs) ∧ ∃ W : Nat → Nat → L2.St → Hp → Prop, (∃ m, W 0 m σ H) ∧ ∀ i m σ H, W i m σ H →
  ((Itt K a).stop i H ∧ D.nx σ H) ∨ ((Itt K a).go i H ∧ ∃ N : L2.St → Hp → Prop, (∀ σ' H', N σ' H' → ∃ m', m' < m ∧ W (i + 1) m' σ' H') ∧ ∀ x H', (Itt K a).yld i H x H' → g x σ H' fun σ2 H2 => t { D with nx := N, ct := N, bk := D.nx } σ2 H2)
theorem x_forT {g : TG} (q : te σ H (kFt K g t D σ)) : tFor (iTup K te) g t D σ H := q
theorem y_forT {xs : List V} {g : TG} (P : Nat → L2.St → Hp → Prop) (hx : SqT K H p xs) (h0 : P 0 σ H) (hl : ∀ i σ H, i ≤ xs.length → P i σ H → SqT K H p xs) (hs : ∀ i x σ H, xs[i]? = some x → P i σ H → g x σ H (kBody t D (P (i + 1)))) (hd : ∀ σ H, P xs.length σ H → D.nx σ H) :
    kFt K g t D σ (.ref p) H := ⟨p, rfl, ⟨xs, hx⟩, for_tup P h0 hl hs hd⟩
/-- for k in range(a, b, -1) -/
def kRg3 (g : TG) (t : TS) (D : Ends) (σ : L2.St) : List V → Hp → Prop := fun vs H => ∃ (i j c : Int) (n : Nat), vs = [.int i, .int j, .int c] ∧ RgC i j c n ∧ ∃ W : Nat → Nat → L2.St → Hp → Prop, (∃ m, W 0 m σ H) ∧ ∀ i' m σ H, W i' m σ H →
  ((Itc i c n).stop i' H ∧ D.nx σ H) ∨ ((Itc i c n).go i' H ∧ ∃ N : L2.St → Hp → Prop, (∀ σ' H', N σ' H' → ∃ m', m' < m ∧ W (i' + 1) m' σ' H') ∧ ∀ x H', (Itc i c n).yld i' H x H' → g x σ H' fun σ2 H2 => t { D with nx := N, ct := N, bk := D.nx } σ2 H2)
theorem x_for3 {ta : TA} {g : TG} (q : ta σ H (kRg3 g t D σ)) : tFor (iRng3 ta) g t D σ H := q
theorem y_for3 {a b : Int} {g : TG} (P : Nat → L2.St → Hp → Prop) (ha : -1000000 ≤ a ∧ a ≤ 1000000) (hb : -1000000 ≤ b ∧ b ≤ 1000000) (h0 : P 0 σ H)
    (hs : ∀ i σ H, i < (a - b).toNat → P i σ H → g (.int (a - (i : Nat))) σ H (kBody t D (P (i + 1)))) (hd : ∀ σ H, P (a - b).toNat σ H → D.nx σ H) : kRg3 g t D σ [.int a, .int b, .int (-1)] H :=
  ⟨a, b, -1, _, rfl, RgC.neg (by omega) (by omega) (by omega) (by omega), for_rangeC P h0 (fun i σ H hi p => by
    have e : a + ((i : Nat) : Int) * (-1) = a - (i : Nat) := by omega
    rw [e]
    exact hs i σ H hi p) hd⟩
end
end TR

set_option Elab.async false
set_option linter.all false
set_option maxRecDepth 100000
set_option maxHeartbeats 4000000
/-! More rules (sums of any kind, list.count of truths), fields by places, data compared. -/
namespace TR
open PySem PySem.Spec PyProof.Rows L2

/-! ### fields by places -/
section
variable {nm : List Str} {vs : List V} {i : Nat} {f : Str} {v : V}
theorem look_zip : ∀ {nm : List Str} {vs : List V} {i : Nat} {f : Str} {v : V}, nm.Nodup → nm[i]? = some f → vs[i]? = some v → (nm.zip vs).lookup f = some v
  | [], _, _, _, _, _, h, _ => by simp at h
  | _ :: _, [], _, _, _, _, _, h => by simp at h
  | g :: nm, x :: vs, 0, f, v, nd, h1, h2 => by
    have e1 : g = f := Option.some.inj h1
    have e2 : x = v := Option.some.inj h2
    subst e1 e2
    show List.lookup g ((g, x) :: nm.zip vs) = some x
    rw [List.lookup_cons, beq_self_eq_true]
  | g :: nm, x :: vs, i + 1, f, v, nd, h1, h2 => by
    have ne : (f == g) = false := beq_eq_false_iff_ne.mpr fun e => (List.nodup_cons.mp nd).1 (by
      rw [← e]
      exact List.mem_of_getElem? (show nm[i]? = some f from by simpa using h1))
    show List.lookup f ((g, x) :: nm.zip vs) = some v
    rw [List.lookup_cons, ne]
    exact look_zip (i := i) (List.nodup_cons.mp nd).2 (by simpa using h1) (by simpa using h2)
theorem put_zip : ∀ {nm : List Str} {vs : List V} {i : Nat} {f : Str} {v : V}, nm.Nodup → nm[i]? = some f → i < vs.length → putF f v (nm.zip vs) = nm.zip (vs.set i v)
  | [], _, _, _, _, _, h, _ => by simp at h
  | _ :: _, [], _, _, _, _, _, h => by simp at h
  | g :: nm, x :: vs, 0, f, v, nd, h1, h2 => by
    have e1 : g = f := Option.some.inj h1
    subst e1
    show (if g = g then (g, v) :: nm.zip vs else _) = _
    rw [if_pos rfl] <;> rfl
  | g :: nm, x :: vs, i + 1, f, v, nd, h1, h2 => by
    have ne : ¬ g = f := fun e => (List.nodup_cons.mp nd).1 (by
      rw [e]
      exact List.mem_of_getElem? (show nm[i]? = some f from by simpa using h1))
    show (if g = f then (g, v) :: nm.zip vs else (g, x) :: putF f v (nm.zip vs)) = _
    rw [if_neg ne, put_zip (i := i) (List.nodup_cons.mp nd).2 (by simpa using h1) (by simpa using h2)] <;> rfl
theorem put_zip_new : ∀ {nm : List Str} {vs : List V} {f : Str} {v : V}, nm.Nodup → nm[vs.length]? = some f → putF f v (nm.zip vs) = nm.zip (vs ++ [v])
  | [], _, _, _, _, h => by simp at h
  | g :: nm, [], f, v, nd, h1 => by
    have e1 : g = f := Option.some.inj h1
    subst e1
    show [(g, v)] = _
    rw [List.nil_append, List.zip_cons_cons, List.zip_nil_right]
  | g :: nm, x :: vs, f, v, nd, h1 => by
    have h1' : nm[vs.length]? = some f := by simpa using h1
    have ne : ¬ g = f := fun e => (List.nodup_cons.mp nd).1 (by
      rw [e]
      exact List.mem_of_getElem? h1')
    show (if g = f then (g, v) :: nm.zip vs else (g, x) :: putF f v (nm.zip vs)) = _
    rw [if_neg ne, put_zip_new (List.nodup_cons.mp nd).2 h1'] <;> rfl
theorem len_zip (h : nm.length < 1000) : (nm.zip vs).length < 1000 := by
  rw [List.length_zip]
  omega
end

theorem getD_some {α : Type} {xs : List α} {i : Nat} {d : α} (h : i < xs.length) : xs[i]? = some (xs.getD i d) := by
  rw [List.getD_eq_getElem?_getD, List.getElem?_eq_getElem h] <;> rfl
/-! ### sums, products of any kind -/
section
variable {X : Cx} {K : PySem.W.Frag} {σ : L2.St} {H : Hp} {v x y : V} {Q : VK} {p q : Addr} {L R R' : List As}
def rAddS : R2 := fun x y H Q => ∃ i j, x = .str i ∧ y = .str j ∧ i.length + j.length ≤ sizeLine ∧ Q (.str (i ++ j)) H
theorem op_addS : OpR X (binaryOp .Add) rAddS := by
  intro pins s σ H x y v u Q I rx ry ⟨i, j, e1, e2, h, q⟩
  exact op_add_str pins s σ H x y v u Q I rx ry ⟨i, j, e1, e2, h, q⟩
def rAddA (K : PySem.W.Frag) : R2 := fun x y H Q => rI0 (fun i j => .int (i + j)) x y H Q ∨ (rCat x y H Q ∨ (rAddS x y H Q ∨ rCatT K x y H Q))
theorem op_addA : OpR X (binaryOp .Add) (rAddA X.K) := op_add.or (op_cat.or (op_addS.or op_catT))
theorem x_addI {i j : Int} (q : Q (.int (i + j)) H) : rAddA K (.int i) (.int j) H Q := .inl ⟨i, j, rfl, rfl, q⟩
theorem x_addS {i j : Str} (h : i.length + j.length ≤ sizeLine) (q : Q (.str (i ++ j)) H) : rAddA K (.str i) (.str j) H Q := .inr (.inr (.inl ⟨i, j, rfl, rfl, h, q⟩))
theorem x_cat {xs ys : List V} (hS : Sep L H) [a : At p L (.lst xs) R] [b : At q L (.lst ys) R'] (h : xs.length + ys.length ≤ sizeLine) (k : ∀ l H', Sep (pt l (.lst (xs ++ ys)) :: L) H' → Q (.ref l) H') : rAddA K (.ref p) (.ref q) H Q :=
  .inr (.inl ⟨p, q, xs, ys, rfl, rfl, hS.at_, Sep.at_ (q := b) hS, h, fun l hl => k l _ (Sep.new hl hS)⟩)
def rMulA : R2 := fun x y H Q => rI CMul (fun i j => .int (i * j)) x y H Q ∨ rRep x y H Q
theorem op_mulA : OpR X (binaryOp .Mult) rMulA := op_mul.or op_rep
theorem x_mulI {i j : Int} (c : CMul i j) (q : Q (.int (i * j)) H) : rMulA (.int i) (.int j) H Q := .inl ⟨i, j, rfl, rfl, c, q⟩
theorem x_mulL {xs : List V} {n : Nat} (hS : Sep L H) [a : At p L (.lst xs) R] (h0 : n ≤ 1000000) (h : xs.length * n ≤ sizeLine) (k : ∀ l H', Sep (pt l (.lst (List.replicate n xs).flatten) :: L) H' → Q (.ref l) H') : rMulA (.ref p) (.int (n : Nat)) H Q :=
  .inr ⟨p, (n : Nat), xs, rfl, rfl, hS.at_, by omega, by omega, by rw [Int.toNat_natCast]; exact h, fun l hl => by rw [Int.toNat_natCast]; exact k l _ (Sep.new hl hS)⟩
/-- a slice of a list, of a tuple -/
theorem sl_listA : SlR X (rSlL X.K) := sl_list
def kLr (Q : VK) : VK := fun x H => ∃ n, x = .int n ∧ (RgOk 0 n ∧ ∀ l, H l = none → Q (.ref l) (upd H l (.lst (rgV 0 n))))
theorem x_lrange1 {ta : TE} (q : ta σ H (kLr Q)) : tLstRg (tRg1 ta) σ H Q := q
theorem y_lrange1 {n : Int} (hS : Sep L H) (h0 : 0 ≤ n) (h1 : n ≤ 1000000) (q : ∀ l H', Sep (pt l (.lst (rgV 0 n)) :: L) H' → Q (.ref l) H') : kLr Q (.int n) H := ⟨n, rfl, .of_le (by omega) (by omega) (by omega) (by omega), fun l hl => q l _ (Sep.new hl hS)⟩
def kLr2b (i : V) (Q : VK) : VK := fun y H => ∃ a b, i = .int a ∧ y = .int b ∧ (RgOk a b ∧ ∀ l, H l = none → Q (.ref l) (upd H l (.lst (rgV a b))))
def kLr2 (tb : TE) (σ : L2.St) (Q : VK) : VK := fun x H => tb σ H (kLr2b x Q)
theorem x_lrange2 {ta tb : TE} (q : ta σ H (kLr2 tb σ Q)) : tLstRg (tRg2 ta tb) σ H Q := q
theorem y_lr2 {tb : TE} (q : tb σ H (kLr2b x Q)) : kLr2 tb σ Q x H := q
theorem y_lrange2 {a b : Int} (hS : Sep L H) (h : RgOk a b) (q : ∀ l H', Sep (pt l (.lst (rgV a b)) :: L) H' → Q (.ref l) H') : kLr2b (.int a) Q (.int b) H := ⟨a, b, rfl, rfl, h, fun l hl => q l _ (Sep.new hl hS)⟩
/-- how many truths -/
def eqb (k : Bool) (v : Value) : Bool := match v with
  | .bool b => b == k
  | _ => false
theorem vals_bl : ∀ {bs : List Bool} {us : List Value}, Vals (bs.map V.bl) us → (∀ y ∈ us, ∃ b, y = Value.bool b) ∧ ∀ k, us.countP (eqb k) = bs.count k
  | [], _, .nil => ⟨fun y hy => (by cases hy), fun k => rfl⟩
  | b :: bs, _, .cons r t => by
    obtain ⟨h1, h2⟩ := vals_bl (bs := bs) t
    cases r
    refine ⟨fun y hy => ?_, fun k => ?_⟩
    · rcases List.mem_cons.mp hy with e | e
      · exact ⟨b, e⟩
      · exact h1 y e
    · rw [List.countP_cons, List.count_cons, h2] <;> rfl
def rCntB (K : PySem.W.Frag) : V → List V → Hp → VK → Prop := fun x xs H Q => ∃ (p : Addr) (bs : List Bool) (k : Bool), x = .ref p ∧ xs = [.bl k] ∧ SqL K H p (bs.map V.bl) ∧ Q (.int (bs.count k : Nat)) H
theorem mt_countB : MtR X "list.count" (rCntB X.K) := by
  intro pins s σ H x xs v us Q I rx rxs h
  obtain ⟨p, bs, k, rfl, rfl, hs, q⟩ := h
  cases rx
  obtain ⟨u, rfl, ru⟩ := rxs.one
  cases ru
  obtain ⟨its, rv, ⟨⟨cls, dd, data, sl⟩, n, ho, hc, hdn, hd⟩, hlen⟩ := I.list hs
  simp only at hc hd
  subst hc hd
  obtain ⟨h1, h2⟩ := vals_bl rv
  refine call_meets PySem.F.slot_list_count ⟨_, ho, rfl⟩ PySem.F.entry_list_count (PySem.F.args_list_count_2 _ _)
    (SeqAt.list_countAt p its.toArray n dd sl (.bool k) (eqb k)) ⟨ho, fun y hy => ?_, ?_⟩
  · obtain ⟨b, rfl⟩ := h1 y (by simpa using hy)
    exact SeqAt.EqAt.bool_bool b k
  · have ec : its.toArray.toList.countP (eqb k) = bs.count k := h2 k
    refine ⟨.int (bs.count k : Nat), H, I.tok _, ⟨s.toks, ?_⟩, q⟩
    show Value.int ((its.toArray.toList.countP (eqb k) : Nat) : Int) s.toks = Value.int ((bs.count k : Nat) : Int) s.toks
    rw [ec]
end

/-! ### data -/
section
variable {K : PySem.W.Frag} {H : Hp} {a : Addr}
theorem dp_ints {ns : List Int} (h : SqL K H a (ns.map V.int)) : Dp K H (.ref a) (.list (ns.map PyData.int)) := .lst h (go ns)
where go : ∀ ns : List Int, DpAll K H (ns.map V.int) (ns.map PyData.int)
  | [] => .nil
  | n :: r => .cons (.int n) (go r)
theorem can_ints : ∀ ns : List Int, PyData.canLayAll0 (ns.map PyData.int) = true
  | [] => rfl
  | n :: r => by
    show (PyData.canLay0 (.int n) && PyData.canLayAll0 (r.map PyData.int)) = true
    rw [can_ints r] <;> rfl
theorem depth_ints : ∀ ns : List Int, PyData.depthAll (ns.map PyData.int) ≤ 1
  | [] => by decide
  | n :: r => by
    have h := depth_ints r
    show max (PyData.depth (.int n)) (PyData.depthAll (r.map PyData.int)) ≤ 1
    have e : PyData.depth (.int n) ≤ 1 := (by decide : (0 : Nat) ≤ 1)
    omega
end

/-! ### dicts, more of lists -/
def kDg2 (x : V) (Q : VK) : VK := fun y H => ∃ a v, x = .ref a ∧ DGet H a y (some v) ∧ Q v H
def kDg1 (ty : TE) (σ : L2.St) (Q : VK) : VK := fun x H => ty σ H (kDg2 x Q)
def kDi2 (y : V) (Q : VK) : VK := fun x H => ∃ a o, x = .ref a ∧ DGet H a y o ∧ Q (.bl o.isSome) H
def kDi1 (td : TE) (σ : L2.St) (Q : VK) : VK := fun y H => td σ H (kDi2 y Q)
def kDn2 (y : V) (Q : VK) : VK := fun x H => ∃ a o, x = .ref a ∧ DGet H a y o ∧ Q (.bl (!o.isSome)) H
def kDn1 (td : TE) (σ : L2.St) (Q : VK) : VK := fun y H => td σ H (kDn2 y Q)
def kDp3 (v x : V) (D : Ends) (σ : L2.St) : VK := fun y H => ∃ a H4, x = .ref a ∧ DPut H a y v H4 ∧ D.nx σ H4
def kDp2 (ty : TE) (v : V) (D : Ends) (σ : L2.St) : VK := fun x H => ty σ H (kDp3 v x D σ)
def kDp1 (td ty : TE) (D : Ends) (σ : L2.St) : VK := fun v H => td σ H (kDp2 ty v D σ)
section
variable {K : PySem.W.Frag} {σ : L2.St} {H : Hp} {v x y : V} {Q : VK} {p q : Addr} {L R R' : List As} {te td ty tv : TE} {t : TS} {D : Ends} {kvs : List (Key × V)} {k : Key}
theorem x_dnew (hS : Sep L H) (q : ∀ p H', Sep (pt p (.dK []) :: L) H' → Q (.ref p) H') : tDNewK σ H Q := fun p hp => q p _ (Sep.new hp hS)
theorem x_dget (q : td σ H (kDg1 ty σ Q)) : tDGet td ty σ H Q := q
theorem y_dg1 (q : ty σ H (kDg2 x Q)) : kDg1 ty σ Q x H := q
theorem y_dg2 (hS : Sep L H) [a : At p L (.dK kvs) R] (h : valV kvs k = some v) (q : Q v H) : kDg2 (.ref p) Q (kV k) H := ⟨p, v, rfl, h ▸ DGet.k hS.at_, q⟩
theorem y_dgi {i : Int} (hS : Sep L H) [a : At p L (.dK kvs) R] (h : valV kvs (.inl i) = some v) (q : Q v H) : kDg2 (.ref p) Q (.int i) H := y_dg2 (k := .inl i) hS h q
theorem y_dgs {s : Str} (hS : Sep L H) [a : At p L (.dK kvs) R] (h : valV kvs (.inr s) = some v) (q : Q v H) : kDg2 (.ref p) Q (.str s) H := y_dg2 (k := .inr s) hS h q
theorem x_din (q : ty σ H (kDi1 td σ Q)) : tDIn ty td σ H Q := q
theorem y_di1 (q : td σ H (kDi2 y Q)) : kDi1 td σ Q y H := q
theorem y_dii {i : Int} (hS : Sep L H) [a : At p L (.dK kvs) R] (q : Q (.bl (valV kvs (.inl i)).isSome) H) : kDi2 (.int i) Q (.ref p) H := ⟨p, _, rfl, DGet.k (k := .inl i) hS.at_, q⟩
theorem y_dis {s : Str} (hS : Sep L H) [a : At p L (.dK kvs) R] (q : Q (.bl (valV kvs (.inr s)).isSome) H) : kDi2 (.str s) Q (.ref p) H := ⟨p, _, rfl, DGet.k (k := .inr s) hS.at_, q⟩
theorem x_dnotin (q : ty σ H (kDn1 td σ Q)) : tDNotIn ty td σ H Q := q
theorem y_dn1 (q : td σ H (kDn2 y Q)) : kDn1 td σ Q y H := q
theorem y_dni {i : Int} (hS : Sep L H) [a : At p L (.dK kvs) R] (q : Q (.bl (!(valV kvs (.inl i)).isSome)) H) : kDn2 (.int i) Q (.ref p) H := ⟨p, _, rfl, DGet.k (k := .inl i) hS.at_, q⟩
theorem y_dns {s : Str} (hS : Sep L H) [a : At p L (.dK kvs) R] (q : Q (.bl (!(valV kvs (.inr s)).isSome)) H) : kDn2 (.str s) Q (.ref p) H := ⟨p, _, rfl, DGet.k (k := .inr s) hS.at_, q⟩
theorem x_dput (q : tv σ H (kDp1 td ty D σ)) : sDPut td ty tv D σ H := q
theorem y_dp1 (q : td σ H (kDp2 ty v D σ)) : kDp1 td ty D σ v H := q
theorem y_dp2 (q : ty σ H (kDp3 v x D σ)) : kDp2 ty v D σ x H := q
theorem y_dpi {i : Int} (hS : Sep L H) [a : At p L (.dK kvs) R] (hl : kvs.length ≤ 1000000) (q : ∀ H', Sep (pt p (.dK (putK kvs (.inl i) v)) :: R) H' → D.nx σ H') : kDp3 v (.ref p) D σ (.int i) H :=
  ⟨p, _, rfl, DPut.k (k := .inl i) hS.at_ (Nat.lt_of_le_of_lt hl (by decide)), q _ (Sep.put (o := .dK kvs) (fun z => z) (a.en H hS))⟩
theorem y_dps {s : Str} (hS : Sep L H) [a : At p L (.dK kvs) R] (hl : kvs.length ≤ 1000000) (q : ∀ H', Sep (pt p (.dK (putK kvs (.inr s) v)) :: R) H' → D.nx σ H') : kDp3 v (.ref p) D σ (.str s) H :=
  ⟨p, _, rfl, DPut.k (k := .inr s) hS.at_ (Nat.lt_of_le_of_lt hl (by decide)), q _ (Sep.put (o := .dK kvs) (fun z => z) (a.en H hS))⟩
/-- in, not in of a list -/
theorem x_in {xs : List V} (h : SqL K H p xs) (hx : flatV x = true) (hf : xs.all flatV = true) (q : Q (.bl (inV x xs)) H) : rIn K false x (.ref p) H Q := ⟨p, xs, rfl, .inl h, hx, hf, q⟩
theorem x_nin {xs : List V} (h : SqL K H p xs) (hx : flatV x = true) (hf : xs.all flatV = true) (q : Q (.bl (!inV x xs)) H) : rIn K true x (.ref p) H Q := ⟨p, xs, rfl, .inl h, hx, hf, q⟩
theorem flat_ints (ns : List Int) : (ns.map V.int).all flatV = true := by
  rw [List.all_map]
  exact List.all_eq_true.mpr fun _ _ => rfl
theorem in_ints (i : Int) (ns : List Int) : inV (.int i) (ns.map V.int) = decide (i ∈ ns) := by
  unfold inV
  rw [List.any_map]
  induction ns with
  | nil => rfl
  | cons n ns ih =>
    rw [List.any_cons, ih]
    show ((n == i) || decide (i ∈ ns)) = decide (i ∈ n :: ns)
    by_cases e : n = i
    · rw [e, beq_self_eq_true, decide_eq_true (List.mem_cons_self) ] <;> rfl
    · have e1 : (n == i) = false := beq_eq_false_iff_ne.mpr e
      rw [e1, Bool.false_or]
      by_cases h : i ∈ ns
      · rw [decide_eq_true h, decide_eq_true (List.mem_cons_of_mem _ h)]
      · rw [decide_eq_false h, decide_eq_false fun z => by
          rcases List.mem_cons.mp z with z | z
          · exact e z.symm
          · exact h z]
theorem x_inI {i : Int} {ns : List Int} (h : SqL K H p (ns.map V.int)) (q : Q (.bl (decide (i ∈ ns))) H) : rIn K false (.int i) (.ref p) H Q := x_in h rfl (flat_ints ns) (by rw [in_ints]; exact q)
theorem x_ninI {i : Int} {ns : List Int} (h : SqL K H p (ns.map V.int)) (q : Q (.bl (!decide (i ∈ ns))) H) : rIn K true (.int i) (.ref p) H Q := x_nin h rfl (flat_ints ns) (by rw [in_ints]; exact q)
/-- insert, remove, index of ints -/
def rIns : V → List V → Hp → VK → Prop := fun x vs H Q => ∃ (l : Addr) (xs : List V) (i : Int) (y : V), x = .ref l ∧ vs = [.int i, y] ∧ H l = some (.lst xs) ∧ xs.length < sizeLine ∧ 0 ≤ i ∧ i < 2 ^ 63 ∧ Q .non (upd H l (.lst (xs.take i.toNat ++ [y] ++ xs.drop i.toNat)))
theorem mt_ins {X : Cx} : MtR X "list.insert" rIns := mt_insert
theorem x_ins {xs : List V} {i : Int} (hS : Sep L H) [a : At p L (.lst xs) R] (hl : xs.length ≤ 1000000) (h0 : 0 ≤ i ∧ i ≤ 1000000) (q : ∀ H', Sep (pt p (.lst (xs.take i.toNat ++ [y] ++ xs.drop i.toNat)) :: R) H' → Q .non H') : rIns (.ref p) [.int i, y] H Q :=
  ⟨p, xs, i, y, rfl, rfl, hS.at_, Nat.lt_of_le_of_lt hl (by decide), by omega, by omega, q _ (Sep.put (o := .lst xs) (fun z => z) (a.en H hS))⟩
theorem insI (ns : List Int) (i : Nat) (y : Int) : (ns.map V.int).take i ++ [V.int y] ++ (ns.map V.int).drop i = (ns.take i ++ [y] ++ ns.drop i).map V.int := by
  rw [List.map_append, List.map_append, List.map_take, List.map_drop] <;> rfl
theorem x_insI {ns : List Int} {i y : Int} (hS : Sep L H) [a : At p L (.lst (ns.map V.int)) R] (hl : ns.length ≤ 1000000) (h0 : 0 ≤ i ∧ i ≤ 1000000) (q : ∀ H', Sep (pt p (.lst ((ns.take i.toNat ++ [y] ++ ns.drop i.toNat).map V.int)) :: R) H' → Q .non H') : rIns (.ref p) [.int i, .int y] H Q :=
  x_ins hS (by rw [List.length_map]; exact hl) h0 (by rw [insI]; exact q)
theorem first_ix {ns : List Int} {i : Int} (h : i ∈ ns) : ns[ns.idxOf i]? = some i ∧ ∀ m, m < ns.idxOf i → ns[m]? ≠ some i := by
  refine ⟨?_, fun m hm e => ?_⟩
  · rw [List.getElem?_eq_getElem (List.idxOf_lt_length_of_mem h), List.getElem_idxOf]
  · have h1 := (List.getElem?_eq_some_iff.mp e)
    obtain ⟨hlt, e2⟩ := h1
    have h3 := List.not_of_lt_findIdx (p := (· == i)) (xs := ns) (i := m) hm
    rw [e2] at h3
    simp at h3
theorem x_remI {ns : List Int} {i : Int} (hS : Sep L H) [a : At p L (.lst (ns.map V.int)) R] (hi : i ∈ ns) (q : ∀ H', Sep (pt p (.lst ((ns.eraseIdx (ns.idxOf i)).map V.int)) :: R) H' → Q .non H') : rRemI (.ref p) [.int i] H Q :=
  ⟨p, ns, i, ns.idxOf i, rfl, rfl, hS.at_, (first_ix hi).1, (first_ix hi).2, q _ (Sep.put (o := .lst (ns.map V.int)) (fun z => z) (a.en H hS))⟩
theorem x_ixI {ns : List Int} {i : Int} (h : SqL K H p (ns.map V.int)) (hi : i ∈ ns) (q : Q (.int (ns.idxOf i : Nat)) H) : rIndex K (.ref p) [.int i] H Q := by
  refine ⟨p, _, .int i, ns.idxOf i, .int i, rfl, rfl, h, rfl, flat_ints ns, ?_, (by show (i == i) = true; simp), fun m z' hm e => ?_, q⟩
  · rw [List.getElem?_map, (first_ix hi).1] <;> rfl
  · rw [List.getElem?_map] at e
    cases e3 : ns[m]? with
    | none =>
      rw [e3] at e
      cases e
    | some z =>
      rw [e3] at e
      cases e
      show (z == i) = false
      refine beq_eq_false_iff_ne.mpr fun z2 => (first_ix hi).2 m hm ?_
      rw [e3, z2]
end
/-! ### isinstance of a held error; list.count, list.index; sorted; comprehensions -/
section
variable {K : PySem.W.Frag} {σ : L2.St} {H : Hp} {v x y : V} {Q : VK} {p q : Addr} {L R R' : List As} {te : TE} {t : TS}
theorem x_isX {D C : Addr} {b : Bool} (hS : Sep L H) [a : At p L (ExA (.ref D) p) R] (hc : ExcC K D) (hk : PySem.W.kitOne K (.ref D) (.ref C) = some b) (q : Q (.bl b) H) : rIsX K [.ref p, .ref C] H Q :=
  ⟨p, D, .ref C, .ref C, b, rfl, hS.at_, hc, fun u r => r, hk, q⟩
theorem x_isXT {D : Addr} {C : String} {b : Bool} (hS : Sep L H) [a : At p L (ExA (.ref D) p) R] (hc : ExcC K D) (hk : PySem.W.kitOne K (.ref D) (.type C) = some b) (q : Q (.bl b) H) : rIsX K [.ref p, .ty C] H Q :=
  ⟨p, D, .ty C, .type C, b, rfl, hS.at_, hc, fun u r => r, hk, q⟩
theorem x_cntB {bs : List Bool} {k : Bool} (h : SqL K H p (bs.map V.bl)) (q : Q (.int (bs.count k : Nat)) H) : rCntB K (.ref p) [.bl k] H Q := ⟨p, bs, k, rfl, rfl, h, q⟩
theorem x_index {ys : List V} {j : Nat} {z : V} (h : SqL K H p ys) (hy : flatV y = true) (hf : ys.all flatV = true) (hj : ys[j]? = some z) (he : eqV z y = true) (hn : ∀ (m : Nat) (z' : V), m < j → ys[m]? = some z' → eqV z' y = false) (q : Q (.int (j : Nat)) H) : rIndex K (.ref p) [y] H Q :=
  ⟨p, ys, y, j, z, rfl, rfl, h, hy, hf, hj, he, hn, q⟩
theorem x_sorted {ns : List Int} (hS : Sep L H) (h : SqL K H p (ns.map V.int)) (hl : ns.length < 64) (q : ∀ (ns' : List Int) (l : Addr) (H' : Hp), ns'.Perm ns → ns'.Pairwise (· ≤ ·) → Sep (pt l (.lst (ns'.map V.int)) :: L) H' → Q (.ref l) H') : rSorted K [.ref p] H Q :=
  ⟨p, ns, rfl, h, hl, fun ns' l hp hs hl => q ns' l _ hp hs (Sep.new hl hS)⟩
/-- [e for x in a tuple]: P what holds behind i turns, the new list in it -/
def kLcT (K : PySem.W.Frag) (g : TG) (tt : TT) (te : TE) (vs : List Nat) (σ : L2.St) (Q : VK) : VK := fun x H => ∃ a, x = .ref a ∧ (∃ xs, SqT K H a xs) ∧ ∀ D, H D = none → ∃ W : Nat → Nat → Hp → Prop, (∃ m, W 0 m (upd H D (.lst []))) ∧ ∀ i m H, W i m H →
  ((Itt K a).stop i H ∧ Q (.ref D) H) ∨ ((Itt K a).go i H ∧ ∃ Nx : Hp → Prop, (∀ H', Nx H' → ∃ m', m' < m ∧ W (i + 1) m' H') ∧ ∀ x H', (Itt K a).yld i H x H' → g x (wipe σ vs) H' fun σ2 H2 => wipe σ2 vs = wipe σ vs ∧ tt σ2 H2 fun b H3 =>
    if b = true then te σ2 H3 fun y H4 => ∃ acc, H4 D = some (.lst acc) ∧ acc.length < sizeLine ∧ Nx (upd H4 D (.lst (acc ++ [y]))) else Nx H3)
def kLcL (K : PySem.W.Frag) (g : TG) (tt : TT) (te : TE) (vs : List Nat) (σ : L2.St) (Q : VK) : VK := fun x H => ∃ a, x = .ref a ∧ (∃ xs, SqL K H a xs) ∧ ∀ D, H D = none → ∃ W : Nat → Nat → Hp → Prop, (∃ m, W 0 m (upd H D (.lst []))) ∧ ∀ i m H, W i m H →
  ((Itl K a).stop i H ∧ Q (.ref D) H) ∨ ((Itl K a).go i H ∧ ∃ Nx : Hp → Prop, (∀ H', Nx H' → ∃ m', m' < m ∧ W (i + 1) m' H') ∧ ∀ x H', (Itl K a).yld i H x H' → g x (wipe σ vs) H' fun σ2 H2 => wipe σ2 vs = wipe σ vs ∧ tt σ2 H2 fun b H3 =>
    if b = true then te σ2 H3 fun y H4 => ∃ acc, H4 D = some (.lst acc) ∧ acc.length < sizeLine ∧ Nx (upd H4 D (.lst (acc ++ [y]))) else Nx H3)
theorem x_lcT {tl : TE} {g : TG} {tt : TT} {vs : List Nat} (q : tl σ H (kLcT K g tt te vs σ Q)) : tLc (iTup K tl) g tt te vs σ H Q := q
theorem x_lcL {tl : TE} {g : TG} {tt : TT} {vs : List Nat} (q : tl σ H (kLcL K g tt te vs σ Q)) : tLc (iList K tl) g tt te vs σ H Q := q
/-- the element's value y goes behind the list so far -/
def kEl (D : Addr) (N : Hp → Prop) : VK := fun y H => ∃ acc, H D = some (.lst acc) ∧ acc.length < sizeLine ∧ N (upd H D (.lst (acc ++ [y])))
def kTt (te : TE) (σ : L2.St) (D : Addr) (N : Hp → Prop) : Bool → Hp → Prop := fun b H => if b = true then te σ H (kEl D N) else N H
def kLcb (tt : TT) (te : TE) (D : Addr) (σ : L2.St) (vs : List Nat) (N : Hp → Prop) : L2.St → Hp → Prop := fun σ2 H => wipe σ2 vs = wipe σ vs ∧ tt σ2 H (kTt te σ2 D N)
theorem y_el {D : Addr} {acc : List V} {N : Hp → Prop} (hS : Sep L H) [a : At D L (.lst acc) R] (hl : acc.length ≤ 1000000) (q : ∀ H', Sep (pt D (.lst (acc ++ [y])) :: R) H' → N H') : kEl D N y H :=
  ⟨acc, hS.at_, Nat.lt_of_le_of_lt hl (by decide), q _ (Sep.put (o := .lst acc) (fun z => z) (a.en H hS))⟩
theorem y_tt {D : Addr} {N : Hp → Prop} {b : Bool} (q : if b = true then te σ H (kEl D N) else N H) : kTt te σ D N b H := q
theorem y_lcb {tt : TT} {D : Addr} {σ2 : L2.St} {vs : List Nat} {N : Hp → Prop} (hw : wipe σ2 vs = wipe σ vs) (q : tt σ2 H (kTt te σ2 D N)) : kLcb tt te D σ vs N σ2 H := ⟨hw, q⟩
theorem x_yes' {QT : Bool → Hp → Prop} (q : QT true H) : tYes σ H QT := q
theorem y_lcT {g : TG} {tt : TT} {vs : List Nat} {xs : List V} (hx : SqT K H p xs) (hS : Sep L H) (P : Addr → Nat → Hp → Prop) (h0 : ∀ D H', Sep (pt D (.lst []) :: L) H' → P D 0 H') (hl : ∀ D i H, i ≤ xs.length → P D i H → SqT K H p xs)
    (hs : ∀ D i x H, xs[i]? = some x → P D i H → g x (wipe σ vs) H (kLcb tt te D σ vs (P D (i + 1)))) (hd : ∀ D H, P D xs.length H → Q (.ref D) H) : kLcT K g tt te vs σ Q (.ref p) H :=
  ⟨p, rfl, ⟨xs, hx⟩, fun D hD => lc_tup (P D) (h0 D _ (Sep.new hD hS)) (hl D) (hs D) (hd D)⟩
theorem y_lcL {g : TG} {tt : TT} {vs : List Nat} {xs : List V} (hx : SqL K H p xs) (hS : Sep L H) (P : Addr → Nat → Hp → Prop) (h0 : ∀ D H', Sep (pt D (.lst []) :: L) H' → P D 0 H') (hl : ∀ D i H, i ≤ xs.length → P D i H → SqL K H p xs)
    (hs : ∀ D i x H, xs[i]? = some x → P D i H → g x (wipe σ vs) H (kLcb tt te D σ vs (P D (i + 1)))) (hd : ∀ D H, P D xs.length H → Q (.ref D) H) : kLcL K g tt te vs σ Q (.ref p) H :=
  ⟨p, rfl, ⟨xs, hx⟩, fun D hD => lc_list (P D) (h0 D _ (Sep.new hD hS)) (hl D) (hs D) (hd D)⟩
theorem x_try {X : Cx} {c : Value} {i : Nat} {ts : Addr → List (Addr × Obj) → TS} {Wout : WX} {tb : ∀ (W : WX) (pn : List (Addr × Obj)) (xe : Value → Shared → Prop), Takes (X.tr pn xe) W → PassesOwn (model X.prog X.w) X.A X.env xe → TS} {D : Ends}
    (q : ∀ pn xe (tk : Takes (X.tr pn xe) (wHold X.K c i ts Wout D)) (po : PassesOwn (model X.prog X.w) X.A X.env xe), tb (wHold X.K c i ts Wout D) pn xe tk po D σ H) : tTry X c i ts Wout tb D σ H := q
/-- the error is caught, and held by a name -/
theorem y_hold {c cls : Value} {i j : Nat} {D : Ends} {Wout : WX} (hx : PySem.W.exmOne K cls c = some true) (hi : ∀ a, (σ.set i (some (.ref a)))[i]? = some (some (.ref a))) (hS : Sep L H)
    (q : ∀ a H', Sep (pt a (ExA cls a) :: L) H' → D.nx (((σ.set i (some (.ref a))).set j (some (.ref a))).set i none) H') : WE (wHold K c i (fun a pn => tAsg (tVar i) (gName j)) Wout D) σ cls none H :=
  ⟨true, hx, fun _ => ⟨rfl, fun a pn na => ⟨.ref a, hi a, na, q a _ (Sep.new na hS)⟩⟩, fun z => Bool.noConfusion z⟩
end

/-! ### more of data -/
section
variable {K : PySem.W.Frag} {H : Hp} {a : Addr}
theorem shaped_ints (ns : List Int) : SeqAt.shaped (.list (ns.map PyData.int)) = true := by
  have h := depth_ints ns
  have e : PyData.depth (.list (ns.map PyData.int)) ≤ 64 := by
    show PyData.depthAll (ns.map PyData.int) + 1 ≤ 64
    omega
  show (PyData.canLayAll0 (ns.map PyData.int) && decide (PyData.depth (.list (ns.map PyData.int)) ≤ 64)) = true
  rw [can_ints, decide_eq_true e] <;> rfl
theorem eqv_of {d : PyData} (h : SeqAt.shaped d = true) : PyData.eqv d d = true := SeqAt.eqv_refl d (SeqAt.canLay_of_shaped h)
theorem pick_int {P : Int → Prop} {is : List Int} (h : ∀ z ∈ is, P z) {i : Nat} (hi : i < is.length) : ∃ z, P z ∧ z ∈ is ∧ (is.map V.int).getD i .non = .int z := by
  refine ⟨is[i], h _ (List.getElem_mem hi), List.getElem_mem hi, ?_⟩
  rw [List.getD_eq_getElem?_getD, List.getElem?_map, List.getElem?_eq_getElem hi] <;> rfl
/-- an arrangement of ints is a list of ints -/
def unint : V → Int
  | .int i => i
  | _ => 0
theorem perm_ints {xs : List V} {is : List Int} (h : xs.Perm (is.map V.int)) : ∃ js : List Int, xs = js.map V.int ∧ js.Perm is := by
  refine ⟨xs.map unint, ?_, ?_⟩
  · rw [List.map_map]
    have e : ∀ v ∈ xs, (V.int ∘ unint) v = v := fun v hv => by
      obtain ⟨i, _, rfl⟩ := List.mem_map.mp (h.mem_iff.mp hv)
      rfl
    exact (List.map_id' xs).symm.trans (List.map_congr_left fun v hv => (e v hv).symm)
  · have h2 := h.map unint
    rw [List.map_map] at h2
    have e : (unint ∘ V.int) = id := rfl
    rw [e, List.map_id] at h2
    exact h2
end
end TR

set_option Elab.async false
set_option linter.all false
set_option maxRecDepth 100000
set_option maxHeartbeats 4000000
/-! The end: from a def's promise to the row. -/
namespace TR
open PySem PySem.Spec PyProof.Rows L2
def CXall : CXT := fun outer H s E u s' => ∃ P w, L2.CX P w outer H s E u s'
theorem fn_all {P : Program} {w : World} {K : PySem.W.Frag} {mg : Str → Option Value} {base : Heap} {k : Nat} {f : Addr} {fd : FuncData} {ps : List Str} {sp : Sp} (F : FnOk P w K mg base (L2.CX P w) k f fd ps sp) : FnOk P w K mg base CXall k f fd ps sp :=
  ⟨F.len, fun A outer s H args us vs Q E hr e0 hb r hsp => codeAny_mono (F.run A outer s H args us vs Q E hr e0 hb r hsp) fun r s' hq => by
    cases r with
    | ok fl =>
      cases fl with
      | ret u => exact hq
      | next => exact False.elim hq
      | brk => exact False.elim hq
      | cont => exact False.elim hq
    | error e => exact ⟨P, w, hq⟩⟩
theorem cxall_no : ∀ (H : Hp) (s : Shared) (e : Value) (s' : Shared), CXall [] H s (fun _ _ _ => False) e s' → False := fun _ _ _ _ ⟨_, _, _, _, _, _, _, _, _, _, _, _, _, _, h⟩ => h
end TR

set_option Elab.async false
set_option linter.all false
set_option maxRecDepth 100000
set_option maxHeartbeats 4000000
/-! The facts, the fields. -/
namespace TR
open PySem PySem.Spec PyProof.Rows L2
class Top (K : PySem.W.Frag) (mg : outParam (Str → Option Value)) : Prop where
  s : Says fa fn exs K
  g : ∃ h : Heap, K.In h ∧ h.Ns mainGlobals mg
section
variable {K : PySem.W.Frag} {mg : Str → Option Value}
theorem gl_RoadError (T : Top K mg) : mg "RoadError" = some (.ref (He.ga K "RoadError")) := let ⟨_, X, G⟩ := T.g; He.glo_ok X G (T.s.fact 0 (f := .glo "RoadError"))
theorem xc_RoadError (T : Top K mg) : PySem.W.excIn K (He.ga K "RoadError") He.veBase "ValueError.__new__" = true ∧ PySem.W.keepIn K (.ref (He.ga K "RoadError")) = true ∧ PySem.W.subIn K (.ref (He.ga K "RoadError")) (.type "BaseException") = some true ∧ PySem.W.typeIn K (.ref (He.ga K "RoadError")) = some (.type "type") := He.exc_ok (T.s.fact 1 (f := .exc "RoadError"))
theorem gl_BadNumber (T : Top K mg) : mg "BadNumber" = some (.ref (He.ga K "BadNumber")) := let ⟨_, X, G⟩ := T.g; He.glo_ok X G (T.s.fact 2 (f := .glo "BadNumber"))
theorem xc_BadNumber (T : Top K mg) : PySem.W.excIn K (He.ga K "BadNumber") He.veBase "ValueError.__new__" = true ∧ PySem.W.keepIn K (.ref (He.ga K "BadNumber")) = true ∧ PySem.W.subIn K (.ref (He.ga K "BadNumber")) (.type "BaseException") = some true ∧ PySem.W.typeIn K (.ref (He.ga K "BadNumber")) = some (.type "type") := He.exc_ok (T.s.fact 3 (f := .exc "BadNumber"))
theorem gl_BadEntry (T : Top K mg) : mg "BadEntry" = some (.ref (He.ga K "BadEntry")) := let ⟨_, X, G⟩ := T.g; He.glo_ok X G (T.s.fact 4 (f := .glo "BadEntry"))
theorem xc_BadEntry (T : Top K mg) : PySem.W.excIn K (He.ga K "BadEntry") He.veBase "ValueError.__new__" = true ∧ PySem.W.keepIn K (.ref (He.ga K "BadEntry")) = true ∧ PySem.W.subIn K (.ref (He.ga K "BadEntry")) (.type "BaseException") = some true ∧ PySem.W.typeIn K (.ref (He.ga K "BadEntry")) = some (.type "type") := He.exc_ok (T.s.fact 5 (f := .exc "BadEntry"))
theorem gl_BadWord (T : Top K mg) : mg "BadWord" = some (.ref (He.ga K "BadWord")) := let ⟨_, X, G⟩ := T.g; He.glo_ok X G (T.s.fact 6 (f := .glo "BadWord"))
theorem xc_BadWord (T : Top K mg) : PySem.W.excIn K (He.ga K "BadWord") He.veBase "ValueError.__new__" = true ∧ PySem.W.keepIn K (.ref (He.ga K "BadWord")) = true ∧ PySem.W.subIn K (.ref (He.ga K "BadWord")) (.type "BaseException") = some true ∧ PySem.W.typeIn K (.ref (He.ga K "BadWord")) = some (.type "type") := He.exc_ok (T.s.fact 7 (f := .exc "BadWord"))
theorem gl_Dice (T : Top K mg) : mg "Dice" = some (.ref (He.ga K "Dice")) := let ⟨_, X, G⟩ := T.g; He.glo_ok X G (T.s.fact 8 (f := .glo "Dice"))
theorem cl_Dice (T : Top K mg) : Cls K (He.ga K "Dice") := He.cls_ok (T.s.fact 9 (f := .cls "Dice"))
theorem mk_Dice (T : Top K mg) : Mk K (He.ga K "Dice") (He.ma K (He.ga K "Dice") "__init__") := He.mkr_ok (T.s.fact 10 (f := .mkr "Dice"))
theorem na_Dice_number (T : Top K mg) : NoAttr K (He.ga K "Dice") "number" := He.noat_ok (T.s.fact 11 (f := .noat "Dice" "number"))
theorem me_Dice_below (T : Top K mg) : Meth K (He.ga K "Dice") "below" (He.ma K (He.ga K "Dice") "below") := He.meth_ok (T.s.fact 12 (f := .meth "Dice" "below"))
theorem gl_Queue (T : Top K mg) : mg "Queue" = some (.ref (He.ga K "Queue")) := let ⟨_, X, G⟩ := T.g; He.glo_ok X G (T.s.fact 13 (f := .glo "Queue"))
theorem cl_Queue (T : Top K mg) : Cls K (He.ga K "Queue") := He.cls_ok (T.s.fact 14 (f := .cls "Queue"))
theorem mk_Queue (T : Top K mg) : Mk K (He.ga K "Queue") (He.ma K (He.ga K "Queue") "__init__") := He.mkr_ok (T.s.fact 15 (f := .mkr "Queue"))
theorem na_Queue_tunes (T : Top K mg) : NoAttr K (He.ga K "Queue") "tunes" := He.noat_ok (T.s.fact 16 (f := .noat "Queue" "tunes"))
theorem na_Queue_turn (T : Top K mg) : NoAttr K (He.ga K "Queue") "turn" := He.noat_ok (T.s.fact 17 (f := .noat "Queue" "turn"))
theorem na_Queue_last (T : Top K mg) : NoAttr K (He.ga K "Queue") "last" := He.noat_ok (T.s.fact 18 (f := .noat "Queue" "last"))
theorem me_Queue_entries (T : Top K mg) : Meth K (He.ga K "Queue") "entries" (He.ma K (He.ga K "Queue") "entries") := He.meth_ok (T.s.fact 19 (f := .meth "Queue" "entries"))
theorem me_Queue_need (T : Top K mg) : Meth K (He.ga K "Queue") "need" (He.ma K (He.ga K "Queue") "need") := He.meth_ok (T.s.fact 20 (f := .meth "Queue" "need"))
theorem me_Queue_tune (T : Top K mg) : Meth K (He.ga K "Queue") "tune" (He.ma K (He.ga K "Queue") "tune") := He.meth_ok (T.s.fact 21 (f := .meth "Queue" "tune"))
theorem me_Queue_put (T : Top K mg) : Meth K (He.ga K "Queue") "put" (He.ma K (He.ga K "Queue") "put") := He.meth_ok (T.s.fact 22 (f := .meth "Queue" "put"))
theorem me_Queue_remove (T : Top K mg) : Meth K (He.ga K "Queue") "remove" (He.ma K (He.ga K "Queue") "remove") := He.meth_ok (T.s.fact 23 (f := .meth "Queue" "remove"))
theorem me_Queue_place (T : Top K mg) : Meth K (He.ga K "Queue") "place" (He.ma K (He.ga K "Queue") "place") := He.meth_ok (T.s.fact 24 (f := .meth "Queue" "place"))
theorem gl_Order (T : Top K mg) : mg "Order" = some (.ref (He.ga K "Order")) := let ⟨_, X, G⟩ := T.g; He.glo_ok X G (T.s.fact 25 (f := .glo "Order"))
theorem cl_Order (T : Top K mg) : Cls K (He.ga K "Order") := He.cls_ok (T.s.fact 26 (f := .cls "Order"))
theorem mk_Order (T : Top K mg) : Mk K (He.ga K "Order") (He.ma K (He.ga K "Order") "__init__") := He.mkr_ok (T.s.fact 27 (f := .mkr "Order"))
theorem na_Order_queue (T : Top K mg) : NoAttr K (He.ga K "Order") "queue" := He.noat_ok (T.s.fact 28 (f := .noat "Order" "queue"))
theorem na_Order_dice (T : Top K mg) : NoAttr K (He.ga K "Order") "dice" := He.noat_ok (T.s.fact 29 (f := .noat "Order" "dice"))
theorem na_Order_is_mixed (T : Top K mg) : NoAttr K (He.ga K "Order") "is_mixed" := He.noat_ok (T.s.fact 30 (f := .noat "Order" "is_mixed"))
theorem na_Order_again (T : Top K mg) : NoAttr K (He.ga K "Order") "again" := He.noat_ok (T.s.fact 31 (f := .noat "Order" "again"))
theorem na_Order_deck (T : Top K mg) : NoAttr K (He.ga K "Order") "deck" := He.noat_ok (T.s.fact 32 (f := .noat "Order" "deck"))
theorem na_Order_is_gone (T : Top K mg) : NoAttr K (He.ga K "Order") "is_gone" := He.noat_ok (T.s.fact 33 (f := .noat "Order" "is_gone"))
theorem na_Order_behind (T : Top K mg) : NoAttr K (He.ga K "Order") "behind" := He.noat_ok (T.s.fact 34 (f := .noat "Order" "behind"))
theorem me_Order_set_again (T : Top K mg) : Meth K (He.ga K "Order") "set_again" (He.ma K (He.ga K "Order") "set_again") := He.meth_ok (T.s.fact 35 (f := .meth "Order" "set_again"))
theorem me_Order_set_mixed (T : Top K mg) : Meth K (He.ga K "Order") "set_mixed" (He.ma K (He.ga K "Order") "set_mixed") := He.meth_ok (T.s.fact 36 (f := .meth "Order" "set_mixed"))
theorem me_Order_put (T : Top K mg) : Meth K (He.ga K "Order") "put" (He.ma K (He.ga K "Order") "put") := He.meth_ok (T.s.fact 37 (f := .meth "Order" "put"))
theorem me_Order_remove (T : Top K mg) : Meth K (He.ga K "Order") "remove" (He.ma K (He.ga K "Order") "remove") := He.meth_ok (T.s.fact 38 (f := .meth "Order" "remove"))
theorem me_Order_next_plain (T : Top K mg) : Meth K (He.ga K "Order") "next_plain" (He.ma K (He.ga K "Order") "next_plain") := He.meth_ok (T.s.fact 39 (f := .meth "Order" "next_plain"))
theorem me_Order_next_mixed (T : Top K mg) : Meth K (He.ga K "Order") "next_mixed" (He.ma K (He.ga K "Order") "next_mixed") := He.meth_ok (T.s.fact 40 (f := .meth "Order" "next_mixed"))
theorem me_Order_skip (T : Top K mg) : Meth K (He.ga K "Order") "skip" (He.ma K (He.ga K "Order") "skip") := He.meth_ok (T.s.fact 41 (f := .meth "Order" "skip"))
theorem me_Order_began (T : Top K mg) : Meth K (He.ga K "Order") "began" (He.ma K (He.ga K "Order") "began") := He.meth_ok (T.s.fact 42 (f := .meth "Order" "began"))
theorem gl_mixed (T : Top K mg) : mg "mixed" = some (.ref (He.ga K "mixed")) := let ⟨_, X, G⟩ := T.g; He.glo_ok X G (T.s.fact 43 (f := .glo "mixed"))
theorem gl__law_cell (T : Top K mg) : mg "_law_cell" = some (.ref (He.ga K "_law_cell")) := let ⟨_, X, G⟩ := T.g; He.glo_ok X G (T.s.fact 44 (f := .glo "_law_cell"))
theorem gl__law_mix (T : Top K mg) : mg "_law_mix" = some (.ref (He.ga K "_law_mix")) := let ⟨_, X, G⟩ := T.g; He.glo_ok X G (T.s.fact 45 (f := .glo "_law_mix"))
theorem gl__law_draw (T : Top K mg) : mg "_law_draw" = some (.ref (He.ga K "_law_draw")) := let ⟨_, X, G⟩ := T.g; He.glo_ok X G (T.s.fact 46 (f := .glo "_law_draw"))
theorem gl__law_round (T : Top K mg) : mg "_law_round" = some (.ref (He.ga K "_law_round")) := let ⟨_, X, G⟩ := T.g; He.glo_ok X G (T.s.fact 47 (f := .glo "_law_round"))
theorem gl_law (T : Top K mg) : mg "law" = some (.ref (He.ga K "law")) := let ⟨_, X, G⟩ := T.g; He.glo_ok X G (T.s.fact 48 (f := .glo "law"))
theorem gi_WHEEL (T : Top K mg) : ∃ t, mg "WHEEL" = some (.int 6075 t) := let ⟨_, X, G⟩ := T.g; He.int_ok X G (T.s.fact 49 (f := .int "WHEEL" 6075))
theorem gi_TIMES (T : Top K mg) : ∃ t, mg "TIMES" = some (.int 106 t) := let ⟨_, X, G⟩ := T.g; He.int_ok X G (T.s.fact 50 (f := .int "TIMES" 106))
theorem gi_MORE (T : Top K mg) : ∃ t, mg "MORE" = some (.int 1283 t) := let ⟨_, X, G⟩ := T.g; He.int_ok X G (T.s.fact 51 (f := .int "MORE" 1283))
theorem gi_MOST (T : Top K mg) : ∃ t, mg "MOST" = some (.int 60 t) := let ⟨_, X, G⟩ := T.g; He.int_ok X G (T.s.fact 52 (f := .int "MOST" 60))
theorem gi_MOST_ENTRIES (T : Top K mg) : ∃ t, mg "MOST_ENTRIES" = some (.int 12 t) := let ⟨_, X, G⟩ := T.g; He.int_ok X G (T.s.fact 53 (f := .int "MOST_ENTRIES" 12))
theorem gl_REPEATS (T : Top K mg) : mg "REPEATS" = some (.ref (He.ga K "REPEATS")) := let ⟨_, X, G⟩ := T.g; He.glo_ok X G (T.s.fact 54 (f := .glo "REPEATS"))
theorem fr_len (T : Top K mg) : mg "len" = none := let ⟨_, X, G⟩ := T.g; He.free_ok X G (T.s.fact 55 (f := .free "len"))
theorem fr_range (T : Top K mg) : mg "range" = none := let ⟨_, X, G⟩ := T.g; He.free_ok X G (T.s.fact 56 (f := .free "range"))
theorem fr_list (T : Top K mg) : mg "list" = none := let ⟨_, X, G⟩ := T.g; He.free_ok X G (T.s.fact 57 (f := .free "list"))
theorem fr_sorted (T : Top K mg) : mg "sorted" = none := let ⟨_, X, G⟩ := T.g; He.free_ok X G (T.s.fact 58 (f := .free "sorted"))
theorem fr_ValueError (T : Top K mg) : mg "ValueError" = none := let ⟨_, X, G⟩ := T.g; He.free_ok X G (T.s.fact 59 (f := .free "ValueError"))
theorem xb_RoadError (T : Top K mg) : ExcC K (He.ga K "RoadError") := excB_ok (T.s.more 1 (f := fun K => excB K "RoadError"))
theorem xb_BadNumber (T : Top K mg) : ExcC K (He.ga K "BadNumber") := excB_ok (T.s.more 2 (f := fun K => excB K "BadNumber"))
theorem xb_BadEntry (T : Top K mg) : ExcC K (He.ga K "BadEntry") := excB_ok (T.s.more 3 (f := fun K => excB K "BadEntry"))
theorem xb_BadWord (T : Top K mg) : ExcC K (He.ga K "BadWord") := excB_ok (T.s.more 4 (f := fun K => excB K "BadWord"))
theorem tu_REPEATS (T : Top K mg) (H : Hp) : SqT K H (He.ga K "REPEATS") (([.str "none", .str "all", .str "one"] : List He.Dv).map (He.Dv.v K)) := He.tupB_ok (T.s.more 5 (f := fun K => He.tupB K "REPEATS" [.str "none", .str "all", .str "one"])) H
instance [T : Top K mg] : FldI K (He.ga K "Dice") "number" := ⟨cl_Dice T, na_Dice_number T⟩
instance [T : Top K mg] : FldI K (He.ga K "Queue") "tunes" := ⟨cl_Queue T, na_Queue_tunes T⟩
instance [T : Top K mg] : FldI K (He.ga K "Queue") "turn" := ⟨cl_Queue T, na_Queue_turn T⟩
instance [T : Top K mg] : FldI K (He.ga K "Queue") "last" := ⟨cl_Queue T, na_Queue_last T⟩
instance [T : Top K mg] : FldI K (He.ga K "Order") "queue" := ⟨cl_Order T, na_Order_queue T⟩
instance [T : Top K mg] : FldI K (He.ga K "Order") "dice" := ⟨cl_Order T, na_Order_dice T⟩
instance [T : Top K mg] : FldI K (He.ga K "Order") "is_mixed" := ⟨cl_Order T, na_Order_is_mixed T⟩
instance [T : Top K mg] : FldI K (He.ga K "Order") "again" := ⟨cl_Order T, na_Order_again T⟩
instance [T : Top K mg] : FldI K (He.ga K "Order") "deck" := ⟨cl_Order T, na_Order_deck T⟩
instance [T : Top K mg] : FldI K (He.ga K "Order") "is_gone" := ⟨cl_Order T, na_Order_is_gone T⟩
instance [T : Top K mg] : FldI K (He.ga K "Order") "behind" := ⟨cl_Order T, na_Order_behind T⟩
theorem df_Dice_init (T : Top K mg) : ∃ fd, FunD K "__init__" "Dice.__init__" (defArgs s_Dice_init) (defBody s_Dice_init) (defScope s_Dice_init) [] [] (He.fAd K ("Dice", some "__init__")) fd := T.s.d.def_ 0 (d := d_Dice_init)
theorem df_Dice_below (T : Top K mg) : ∃ fd, FunD K "below" "Dice.below" (defArgs s_Dice_below) (defBody s_Dice_below) (defScope s_Dice_below) [] [] (He.fAd K ("Dice", some "below")) fd := T.s.d.def_ 1 (d := d_Dice_below)
theorem df_mixed (T : Top K mg) : ∃ fd, FunD K "mixed" "mixed" (defArgs s_mixed) (defBody s_mixed) (defScope s_mixed) [] [] (He.fAd K ("mixed", none)) fd := T.s.d.def_ 2 (d := d_mixed)
theorem df_Queue_init (T : Top K mg) : ∃ fd, FunD K "__init__" "Queue.__init__" (defArgs s_Queue_init) (defBody s_Queue_init) (defScope s_Queue_init) [] [] (He.fAd K ("Queue", some "__init__")) fd := T.s.d.def_ 3 (d := d_Queue_init)
theorem df_Queue_entries (T : Top K mg) : ∃ fd, FunD K "entries" "Queue.entries" (defArgs s_Queue_entries) (defBody s_Queue_entries) (defScope s_Queue_entries) [] [] (He.fAd K ("Queue", some "entries")) fd := T.s.d.def_ 4 (d := d_Queue_entries)
theorem df_Queue_need (T : Top K mg) : ∃ fd, FunD K "need" "Queue.need" (defArgs s_Queue_need) (defBody s_Queue_need) (defScope s_Queue_need) [] [] (He.fAd K ("Queue", some "need")) fd := T.s.d.def_ 5 (d := d_Queue_need)
theorem df_Queue_tune (T : Top K mg) : ∃ fd, FunD K "tune" "Queue.tune" (defArgs s_Queue_tune) (defBody s_Queue_tune) (defScope s_Queue_tune) [] [] (He.fAd K ("Queue", some "tune")) fd := T.s.d.def_ 6 (d := d_Queue_tune)
theorem df_Queue_put (T : Top K mg) : ∃ fd, FunD K "put" "Queue.put" (defArgs s_Queue_put) (defBody s_Queue_put) (defScope s_Queue_put) [] [] (He.fAd K ("Queue", some "put")) fd := T.s.d.def_ 7 (d := d_Queue_put)
theorem df_Queue_remove (T : Top K mg) : ∃ fd, FunD K "remove" "Queue.remove" (defArgs s_Queue_remove) (defBody s_Queue_remove) (defScope s_Queue_remove) [] [] (He.fAd K ("Queue", some "remove")) fd := T.s.d.def_ 8 (d := d_Queue_remove)
theorem df_Queue_place (T : Top K mg) : ∃ fd, FunD K "place" "Queue.place" (defArgs s_Queue_place) (defBody s_Queue_place) (defScope s_Queue_place) [] [] (He.fAd K ("Queue", some "place")) fd := T.s.d.def_ 9 (d := d_Queue_place)
theorem df_Order_init (T : Top K mg) : ∃ fd, FunD K "__init__" "Order.__init__" (defArgs s_Order_init) (defBody s_Order_init) (defScope s_Order_init) [] [] (He.fAd K ("Order", some "__init__")) fd := T.s.d.def_ 10 (d := d_Order_init)
theorem df_Order_set_again (T : Top K mg) : ∃ fd, FunD K "set_again" "Order.set_again" (defArgs s_Order_set_again) (defBody s_Order_set_again) (defScope s_Order_set_again) [] [] (He.fAd K ("Order", some "set_again")) fd := T.s.d.def_ 11 (d := d_Order_set_again)
theorem df_Order_set_mixed (T : Top K mg) : ∃ fd, FunD K "set_mixed" "Order.set_mixed" (defArgs s_Order_set_mixed) (defBody s_Order_set_mixed) (defScope s_Order_set_mixed) [] [] (He.fAd K ("Order", some "set_mixed")) fd := T.s.d.def_ 12 (d := d_Order_set_mixed)
theorem df_Order_put (T : Top K mg) : ∃ fd, FunD K "put" "Order.put" (defArgs s_Order_put) (defBody s_Order_put) (defScope s_Order_put) [] [] (He.fAd K ("Order", some "put")) fd := T.s.d.def_ 13 (d := d_Order_put)
theorem df_Order_remove (T : Top K mg) : ∃ fd, FunD K "remove" "Order.remove" (defArgs s_Order_remove) (defBody s_Order_remove) (defScope s_Order_remove) [] [] (He.fAd K ("Order", some "remove")) fd := T.s.d.def_ 14 (d := d_Order_remove)
theorem df_Order_next_plain (T : Top K mg) : ∃ fd, FunD K "next_plain" "Order.next_plain" (defArgs s_Order_next_plain) (defBody s_Order_next_plain) (defScope s_Order_next_plain) [] [] (He.fAd K ("Order", some "next_plain")) fd := T.s.d.def_ 15 (d := d_Order_next_plain)
theorem df_Order_next_mixed (T : Top K mg) : ∃ fd, FunD K "next_mixed" "Order.next_mixed" (defArgs s_Order_next_mixed) (defBody s_Order_next_mixed) (defScope s_Order_next_mixed) [] [] (He.fAd K ("Order", some "next_mixed")) fd := T.s.d.def_ 16 (d := d_Order_next_mixed)
theorem df_Order_skip (T : Top K mg) : ∃ fd, FunD K "skip" "Order.skip" (defArgs s_Order_skip) (defBody s_Order_skip) (defScope s_Order_skip) [] [] (He.fAd K ("Order", some "skip")) fd := T.s.d.def_ 17 (d := d_Order_skip)
theorem df_Order_began (T : Top K mg) : ∃ fd, FunD K "began" "Order.began" (defArgs s_Order_began) (defBody s_Order_began) (defScope s_Order_began) [] [] (He.fAd K ("Order", some "began")) fd := T.s.d.def_ 18 (d := d_Order_began)
theorem df_l_cell (T : Top K mg) : ∃ fd, FunD K "_law_cell" "_law_cell" (defArgs s_l_cell) (defBody s_l_cell) (defScope s_l_cell) [] [] (He.fAd K ("_law_cell", none)) fd := T.s.d.def_ 19 (d := d_l_cell)
theorem df_l_mix (T : Top K mg) : ∃ fd, FunD K "_law_mix" "_law_mix" (defArgs s_l_mix) (defBody s_l_mix) (defScope s_l_mix) [] [] (He.fAd K ("_law_mix", none)) fd := T.s.d.def_ 20 (d := d_l_mix)
theorem df_l_draw (T : Top K mg) : ∃ fd, FunD K "_law_draw" "_law_draw" (defArgs s_l_draw) (defBody s_l_draw) (defScope s_l_draw) [] [] (He.fAd K ("_law_draw", none)) fd := T.s.d.def_ 21 (d := d_l_draw)
theorem df_l_round (T : Top K mg) : ∃ fd, FunD K "_law_round" "_law_round" (defArgs s_l_round) (defBody s_l_round) (defScope s_l_round) [] [] (He.fAd K ("_law_round", none)) fd := T.s.d.def_ 22 (d := d_l_round)
theorem df_law (T : Top K mg) : ∃ fd, FunD K "law" "law" (defArgs s_law) (defBody s_law) (defScope s_law) [] [] (He.fAd K ("law", none)) fd := T.s.d.def_ 23 (d := d_law)
end
def nmDice : List Str := ["number"]
theorem ndDice : nmDice.Nodup := by decide +kernel
instance : ∀ {a0 : V}, Fd (nmDice.zip [a0]) "number" a0 := fun {a0} => ⟨look_zip ndDice (i := 0) rfl rfl, len_zip (by decide)⟩
instance : ∀ {a0 y : V}, Fp (nmDice.zip [a0]) "number" y (nmDice.zip [y]) := fun {a0 y} => ⟨put_zip ndDice (i := 0) rfl (by show 0 < 1; decide), len_zip (by decide)⟩
instance : ∀ {y : V}, Fp ([]) "number" y (nmDice.zip [y]) := fun {y} => ⟨put_zip_new (vs := []) ndDice rfl, (by show 0 < 1000; decide)⟩
instance : NotF nmDice "below" := ⟨by decide +kernel⟩
def nmQueue : List Str := ["tunes", "turn", "last"]
theorem ndQueue : nmQueue.Nodup := by decide +kernel
instance : ∀ {a0 a1 a2 : V}, Fd (nmQueue.zip [a0, a1, a2]) "tunes" a0 := fun {a0 a1 a2} => ⟨look_zip ndQueue (i := 0) rfl rfl, len_zip (by decide)⟩
instance : ∀ {a0 a1 a2 y : V}, Fp (nmQueue.zip [a0, a1, a2]) "tunes" y (nmQueue.zip [y, a1, a2]) := fun {a0 a1 a2 y} => ⟨put_zip ndQueue (i := 0) rfl (by show 0 < 3; decide), len_zip (by decide)⟩
instance : ∀ {y : V}, Fp ([]) "tunes" y (nmQueue.zip [y]) := fun {y} => ⟨put_zip_new (vs := []) ndQueue rfl, (by show 0 < 1000; decide)⟩
instance : ∀ {a0 a1 a2 : V}, Fd (nmQueue.zip [a0, a1, a2]) "turn" a1 := fun {a0 a1 a2} => ⟨look_zip ndQueue (i := 1) rfl rfl, len_zip (by decide)⟩
instance : ∀ {a0 a1 a2 y : V}, Fp (nmQueue.zip [a0, a1, a2]) "turn" y (nmQueue.zip [a0, y, a2]) := fun {a0 a1 a2 y} => ⟨put_zip ndQueue (i := 1) rfl (by show 1 < 3; decide), len_zip (by decide)⟩
instance : ∀ {a0 y : V}, Fp (nmQueue.zip [a0]) "turn" y (nmQueue.zip [a0, y]) := fun {a0 y} => ⟨put_zip_new (vs := [a0]) ndQueue rfl, len_zip (by decide)⟩
instance : ∀ {a0 a1 a2 : V}, Fd (nmQueue.zip [a0, a1, a2]) "last" a2 := fun {a0 a1 a2} => ⟨look_zip ndQueue (i := 2) rfl rfl, len_zip (by decide)⟩
instance : ∀ {a0 a1 a2 y : V}, Fp (nmQueue.zip [a0, a1, a2]) "last" y (nmQueue.zip [a0, a1, y]) := fun {a0 a1 a2 y} => ⟨put_zip ndQueue (i := 2) rfl (by show 2 < 3; decide), len_zip (by decide)⟩
instance : ∀ {a0 a1 y : V}, Fp (nmQueue.zip [a0, a1]) "last" y (nmQueue.zip [a0, a1, y]) := fun {a0 a1 y} => ⟨put_zip_new (vs := [a0, a1]) ndQueue rfl, len_zip (by decide)⟩
instance : NotF nmQueue "entries" := ⟨by decide +kernel⟩
instance : NotF nmQueue "need" := ⟨by decide +kernel⟩
instance : NotF nmQueue "tune" := ⟨by decide +kernel⟩
instance : NotF nmQueue "put" := ⟨by decide +kernel⟩
instance : NotF nmQueue "remove" := ⟨by decide +kernel⟩
instance : NotF nmQueue "place" := ⟨by decide +kernel⟩
def nmOrder : List Str := ["queue", "dice", "is_mixed", "again", "deck", "is_gone", "behind"]
theorem ndOrder : nmOrder.Nodup := by decide +kernel
instance : ∀ {a0 a1 a2 a3 a4 a5 a6 : V}, Fd (nmOrder.zip [a0, a1, a2, a3, a4, a5, a6]) "queue" a0 := fun {a0 a1 a2 a3 a4 a5 a6} => ⟨look_zip ndOrder (i := 0) rfl rfl, len_zip (by decide)⟩
instance : ∀ {a0 a1 a2 a3 a4 a5 a6 y : V}, Fp (nmOrder.zip [a0, a1, a2, a3, a4, a5, a6]) "queue" y (nmOrder.zip [y, a1, a2, a3, a4, a5, a6]) := fun {a0 a1 a2 a3 a4 a5 a6 y} => ⟨put_zip ndOrder (i := 0) rfl (by show 0 < 7; decide), len_zip (by decide)⟩
instance : ∀ {y : V}, Fp ([]) "queue" y (nmOrder.zip [y]) := fun {y} => ⟨put_zip_new (vs := []) ndOrder rfl, (by show 0 < 1000; decide)⟩
instance : ∀ {a0 a1 a2 a3 a4 a5 a6 : V}, Fd (nmOrder.zip [a0, a1, a2, a3, a4, a5, a6]) "dice" a1 := fun {a0 a1 a2 a3 a4 a5 a6} => ⟨look_zip ndOrder (i := 1) rfl rfl, len_zip (by decide)⟩
instance : ∀ {a0 a1 a2 a3 a4 a5 a6 y : V}, Fp (nmOrder.zip [a0, a1, a2, a3, a4, a5, a6]) "dice" y (nmOrder.zip [a0, y, a2, a3, a4, a5, a6]) := fun {a0 a1 a2 a3 a4 a5 a6 y} => ⟨put_zip ndOrder (i := 1) rfl (by show 1 < 7; decide), len_zip (by decide)⟩
instance : ∀ {a0 y : V}, Fp (nmOrder.zip [a0]) "dice" y (nmOrder.zip [a0, y]) := fun {a0 y} => ⟨put_zip_new (vs := [a0]) ndOrder rfl, len_zip (by decide)⟩
instance : ∀ {a0 a1 a2 a3 a4 a5 a6 : V}, Fd (nmOrder.zip [a0, a1, a2, a3, a4, a5, a6]) "is_mixed" a2 := fun {a0 a1 a2 a3 a4 a5 a6} => ⟨look_zip ndOrder (i := 2) rfl rfl, len_zip (by decide)⟩
instance : ∀ {a0 a1 a2 a3 a4 a5 a6 y : V}, Fp (nmOrder.zip [a0, a1, a2, a3, a4, a5, a6]) "is_mixed" y (nmOrder.zip [a0, a1, y, a3, a4, a5, a6]) := fun {a0 a1 a2 a3 a4 a5 a6 y} => ⟨put_zip ndOrder (i := 2) rfl (by show 2 < 7; decide), len_zip (by decide)⟩
instance : ∀ {a0 a1 y : V}, Fp (nmOrder.zip [a0, a1]) "is_mixed" y (nmOrder.zip [a0, a1, y]) := fun {a0 a1 y} => ⟨put_zip_new (vs := [a0, a1]) ndOrder rfl, len_zip (by decide)⟩
instance : ∀ {a0 a1 a2 a3 a4 a5 a6 : V}, Fd (nmOrder.zip [a0, a1, a2, a3, a4, a5, a6]) "again" a3 := fun {a0 a1 a2 a3 a4 a5 a6} => ⟨look_zip ndOrder (i := 3) rfl rfl, len_zip (by decide)⟩
instance : ∀ {a0 a1 a2 a3 a4 a5 a6 y : V}, Fp (nmOrder.zip [a0, a1, a2, a3, a4, a5, a6]) "again" y (nmOrder.zip [a0, a1, a2, y, a4, a5, a6]) := fun {a0 a1 a2 a3 a4 a5 a6 y} => ⟨put_zip ndOrder (i := 3) rfl (by show 3 < 7; decide), len_zip (by decide)⟩
instance : ∀ {a0 a1 a2 y : V}, Fp (nmOrder.zip [a0, a1, a2]) "again" y (nmOrder.zip [a0, a1, a2, y]) := fun {a0 a1 a2 y} => ⟨put_zip_new (vs := [a0, a1, a2]) ndOrder rfl, len_zip (by decide)⟩
instance : ∀ {a0 a1 a2 a3 a4 a5 a6 : V}, Fd (nmOrder.zip [a0, a1, a2, a3, a4, a5, a6]) "deck" a4 := fun {a0 a1 a2 a3 a4 a5 a6} => ⟨look_zip ndOrder (i := 4) rfl rfl, len_zip (by decide)⟩
instance : ∀ {a0 a1 a2 a3 a4 a5 a6 y : V}, Fp (nmOrder.zip [a0, a1, a2, a3, a4, a5, a6]) "deck" y (nmOrder.zip [a0, a1, a2, a3, y, a5, a6]) := fun {a0 a1 a2 a3 a4 a5 a6 y} => ⟨put_zip ndOrder (i := 4) rfl (by show 4 < 7; decide), len_zip (by decide)⟩
instance : ∀ {a0 a1 a2 a3 y : V}, Fp (nmOrder.zip [a0, a1, a2, a3]) "deck" y (nmOrder.zip [a0, a1, a2, a3, y]) := fun {a0 a1 a2 a3 y} => ⟨put_zip_new (vs := [a0, a1, a2, a3]) ndOrder rfl, len_zip (by decide)⟩
instance : ∀ {a0 a1 a2 a3 a4 a5 a6 : V}, Fd (nmOrder.zip [a0, a1, a2, a3, a4, a5, a6]) "is_gone" a5 := fun {a0 a1 a2 a3 a4 a5 a6} => ⟨look_zip ndOrder (i := 5) rfl rfl, len_zip (by decide)⟩
instance : ∀ {a0 a1 a2 a3 a4 a5 a6 y : V}, Fp (nmOrder.zip [a0, a1, a2, a3, a4, a5, a6]) "is_gone" y (nmOrder.zip [a0, a1, a2, a3, a4, y, a6]) := fun {a0 a1 a2 a3 a4 a5 a6 y} => ⟨put_zip ndOrder (i := 5) rfl (by show 5 < 7; decide), len_zip (by decide)⟩
instance : ∀ {a0 a1 a2 a3 a4 y : V}, Fp (nmOrder.zip [a0, a1, a2, a3, a4]) "is_gone" y (nmOrder.zip [a0, a1, a2, a3, a4, y]) := fun {a0 a1 a2 a3 a4 y} => ⟨put_zip_new (vs := [a0, a1, a2, a3, a4]) ndOrder rfl, len_zip (by decide)⟩
instance : ∀ {a0 a1 a2 a3 a4 a5 a6 : V}, Fd (nmOrder.zip [a0, a1, a2, a3, a4, a5, a6]) "behind" a6 := fun {a0 a1 a2 a3 a4 a5 a6} => ⟨look_zip ndOrder (i := 6) rfl rfl, len_zip (by decide)⟩
instance : ∀ {a0 a1 a2 a3 a4 a5 a6 y : V}, Fp (nmOrder.zip [a0, a1, a2, a3, a4, a5, a6]) "behind" y (nmOrder.zip [a0, a1, a2, a3, a4, a5, y]) := fun {a0 a1 a2 a3 a4 a5 a6 y} => ⟨put_zip ndOrder (i := 6) rfl (by show 6 < 7; decide), len_zip (by decide)⟩
instance : ∀ {a0 a1 a2 a3 a4 a5 y : V}, Fp (nmOrder.zip [a0, a1, a2, a3, a4, a5]) "behind" y (nmOrder.zip [a0, a1, a2, a3, a4, a5, y]) := fun {a0 a1 a2 a3 a4 a5 y} => ⟨put_zip_new (vs := [a0, a1, a2, a3, a4, a5]) ndOrder rfl, len_zip (by decide)⟩
instance : NotF nmOrder "set_again" := ⟨by decide +kernel⟩
instance : NotF nmOrder "set_mixed" := ⟨by decide +kernel⟩
instance : NotF nmOrder "put" := ⟨by decide +kernel⟩
instance : NotF nmOrder "remove" := ⟨by decide +kernel⟩
instance : NotF nmOrder "next_plain" := ⟨by decide +kernel⟩
instance : NotF nmOrder "next_mixed" := ⟨by decide +kernel⟩
instance : NotF nmOrder "skip" := ⟨by decide +kernel⟩
instance : NotF nmOrder "began" := ⟨by decide +kernel⟩
end TR

set_option Elab.async false
set_option linter.all false
set_option maxRecDepth 100000
set_option maxHeartbeats 4000000
/-! .. -/
set_option hygiene false
local macro_rules | `(tactic| walk_at "s1") => `(tactic| first
  | (with_reducible refine x_seq ?_)
  | (with_reducible refine x_asg ?_)
  | (with_reducible refine y_asg ?_)
  | (with_reducible refine x_name ?_)
  | (with_reducible refine x_ifS ?_)
  | (with_reducible refine y_ifS ?_)
  | (with_reducible refine x_ret ?_)
  | (with_reducible refine x_retN ?_)
  | (with_reducible refine x_drop ?_)
  | (with_reducible refine y_drop ?_)
  | (with_reducible refine x_next ?_)
  | (with_reducible refine x_cont ?_)
  | (with_reducible refine x_test ?_)
  | (with_reducible refine x_tB ?_)
  | (with_reducible refine y_test ?_)
  | (with_reducible refine x_not ?_)
  | (with_reducible refine y_not ?_)
  | (with_reducible refine x_and ?_)
  | (with_reducible refine y_and ?_)
  | (with_reducible refine x_or ?_)
  | (with_reducible refine y_or ?_)
  | (with_reducible refine x_chain ?_)
  | (with_reducible refine y_ch1 ?_)
  | (with_reducible refine y_ch2 ?_)
  | (with_reducible refine y_ch3 ?_)
  | (with_reducible refine x_andV ?_)
  | (with_reducible refine y_andV ?_)
  | (with_reducible refine x_orV ?_)
  | (with_reducible refine y_orV ?_)
  | (with_reducible refine x_notV ?_)
  | (with_reducible refine y_notV ?_)
  | (with_reducible refine x_if ?_)
  | (with_reducible refine y_ifE ?_)
  | (with_reducible refine x_op ?_)
  | (with_reducible refine y_op1 ?_)
  | (with_reducible refine y_op2 ?_)
  | (with_reducible refine x_un ?_)
  | (with_reducible refine y_neg ?_)
  | (with_reducible refine x_c ?_)
  | (with_reducible refine x_fld ?_)
  | (with_reducible refine x_sfld ?_)
  | (with_reducible refine y_sf ?_)
  | (with_reducible refine x_nil ?_)
  | (with_reducible refine x_cons ?_)
  | (with_reducible refine y_c1 ?_)
  | (with_reducible refine y_c2 ?_)
  | (with_reducible refine x_callS ?_)
  | (with_reducible refine y_sp ?_)
  | (with_reducible refine x_meth ?_)
  | (with_reducible refine y_mt2 ?_)
  | (with_reducible refine x_make ?_)
  | (with_reducible refine y_mq ?_)
  | (with_reducible refine x_cb ?_)
  | (with_reducible refine y_cb ?_)
  | (with_reducible refine x_bm ?_)
  | (with_reducible refine y_bq ?_)
  | (with_reducible refine x_bm0 ?_)
  | (with_reducible refine x_rz ?_)
  | (with_reducible refine x_lst ?_)
  | (with_reducible refine x_tup ?_)
  | (with_reducible refine x_sub ?_)
  | (with_reducible refine y_sb1 ?_)
  | (with_reducible refine x_for1 ?_)
  | (with_reducible refine x_forL ?_)
  | (with_reducible refine x_for3 ?_)
  | (with_reducible refine x_forT ?_)
  | (with_reducible refine y_body ?_)
  | (with_reducible refine x_tru ?_)
  | (with_reducible refine y_trub ?_)
  | (with_reducible refine y_trui ?_)
  | (with_reducible refine y_trun ?_)
  | (with_reducible refine x_gcons ?_)
  | (with_reducible refine y_g ?_)
  | (with_reducible refine x_gnil ?_)
  | (with_reducible refine x_rev ?_)
  | (with_reducible refine x_sl ?_)
  | (with_reducible refine y_sl1 ?_)
  | (with_reducible refine y_sl2 ?_)
  | (with_reducible refine y_sl3 ?_)
  | (with_reducible refine x_nop ?_)
  | (with_reducible refine x_part ?_)
  | (with_reducible refine y_part ?_)
  | (with_reducible refine x_lrange1 ?_)
  | (with_reducible refine x_lrange2 ?_)
  | (with_reducible refine y_lr2 ?_)
  | (with_reducible refine x_addI ?_)
  | (with_reducible refine x_dget ?_)
  | (with_reducible refine y_dg1 ?_)
  | (with_reducible refine x_din ?_)
  | (with_reducible refine y_di1 ?_)
  | (with_reducible refine x_dnotin ?_)
  | (with_reducible refine y_dn1 ?_)
  | (with_reducible refine x_dput ?_)
  | (with_reducible refine y_dp1 ?_)
  | (with_reducible refine y_dp2 ?_)
  | (with_reducible refine x_dnew hS (fun u H hS => ?_))
  | (with_reducible refine x_disp hS (fun u H hS => ?_))
  | (with_reducible refine x_prs ?_)
  | (with_reducible refine y_pa ?_)
  | (with_reducible refine y_pb ?_)
  | (with_reducible refine x_prn ?_)
  | (with_reducible refine y_pc ?_)
  | (with_reducible refine y_dgo hS ?_)
  | (with_reducible refine y_dpo hS (fun H hS => ?_))
  | ((with_reducible refine x_try (fun pn xe tk po => ?_)); (try dsimp only [cxOf]))
  | (with_reducible refine x_lcT ?_)
  | (with_reducible refine x_lcL ?_)
  | (with_reducible refine x_lcR ?_)
  | (with_reducible refine y_tt ?_)
  | (with_reducible refine x_yes' ?_)
  | ((with_reducible refine' y_lcb ?h1 ?_); (case h1 => exact rfl))
  | (with_reducible refine x_I0 ?_)
  | (with_reducible refine x_eqI ?_)
  | (with_reducible refine x_neI ?_)
  | (with_reducible refine x_isN ?_)
  | (with_reducible refine x_notN ?_)
  | (with_reducible refine x_tt ?_)
  | (with_reducible refine x_ff ?_)
  | (with_reducible refine x_nt ?_)
  | (with_reducible refine x_nf ?_)
  | (with_reducible refine y_fld hS ?_)
  | (with_reducible refine y_meth hS ?_)
  | (with_reducible refine y_put hS (fun H hS => ?_))
  | ((with_reducible refine' x_var ?h1 ?_); (case h1 => exact rfl))
  | (with_reducible refine y_lst hS (by first | decide | (show _ ≤ sizeLine; simp only [List.length_cons, List.length_nil]; decide)) (fun u H hS => ?_))
  | (with_reducible refine y_tup hS (by first | decide | (show _ ≤ sizeLine; simp only [List.length_cons, List.length_nil]; decide)) (fun u H hS => ?_)))
local macro_rules | `(tactic| walk_at "s") => `(tactic| repeat walk_at "s1")
local macro_rules | `(tactic| walk_at "go") => `(tactic| (dsimp only [cxOf]; repeat walk_at "s1"))
local macro_rules | `(tactic| walk_at "w1") => `(tactic| first
  | (with_reducible refine x_stop ?_)
  | (with_reducible refine x_stopE ?_)
  | (with_reducible refine x_stopA ?_)
  | (with_reducible refine x_stopO ?_)
  | walk_at "s1")
local macro_rules | `(tactic| walk_at "w") => `(tactic| repeat walk_at "w1")
local macro_rules | `(tactic| walk_at "wo") => `(tactic| (dsimp only [cxOf]; repeat walk_at "w1"))

namespace TR
open PySem PySem.Spec PyProof.Rows L2
section
variable {P : Program} {w : World} {K : PySem.W.Frag} {mg : Str → Option Value} {base : Heap}
/-! ### the law's draws -/
/-- the script -/
def ScrA (K : PySem.W.Frag) (a : Addr) (ns : List Int) : As := fun h => SqL K h a (ns.map V.int)
instance {K : PySem.W.Frag} {a : Addr} {ns : List Int} : Kys (ScrA K a ns) a := ⟨trivial⟩
theorem Sep.scr {a : Addr} {ns : List Int} {L R : List As} {H : Hp} (h : Sep L H) [q : AtA a L (ScrA K a ns) R] : SqL K H a (ns.map V.int) := by
  obtain ⟨h1, h2, s1, s2, d, x, r⟩ := q.en H h
  exact SqL.sb s1 x
/-- how many draws -/
def TownA (t : Addr) (n : Nat) : As := pt t (.lst (List.replicate n (V.int 0)))
instance {t : Addr} {n : Nat} : Kys (TownA t n) t := ⟨trivial⟩
def lcell (ns : List Int) (k : Nat) : Int := if ns = [] then 0 else ns.getD (k % ns.length) 0
def lmix (ns : List Int) (k : Nat) : Int :=
  let a := (lcell ns k + 104729 * ((k : Int) + 1)) % 4294967291
  let b := a ^ 5 % 4294967279
  (b / 64 * 69621 + b) % 4294967231
def draw (ns : List Int) (n : Nat) (m : Int) : Int := lmix ns n / 8 % m
theorem draw_ok (ns : List Int) (n : Nat) {m : Int} (h : 0 < m) : 0 ≤ draw ns n m ∧ draw ns n m < m := ⟨Int.emod_nonneg _ (by omega), Int.emod_lt_of_pos _ h⟩
def sp_l_cell (K : PySem.W.Frag) : Sp := fun vs H Q E => ∃ (a : Addr) (ns : List Int) (k : Nat) (R : List As), vs = [.ref a, .int (k : Nat)] ∧ Sep (ScrA K a ns :: R) H ∧ Q (.int (lcell ns k)) H
theorem ln_l_cell : ∀ vs H Q E, sp_l_cell K vs H Q E → vs.length = (["_law_script", "_law_k"] : List Str).length := by
  rintro _ _ _ _ ⟨a, ns, k, R, rfl, _⟩
  rfl
theorem sc_l_cell : FnScope ["_law_script", "_law_k"] ["_law_script", "_law_k"] (defScope s_l_cell) := ⟨rfl, rfl, rfl, by decide +kernel, rfl, by decide +kernel, by decide +kernel⟩
theorem ok_l_cell (T : Top K mg) : OkD P w K mg base d_l_cell 1 ["_law_script", "_law_k"] (sp_l_cell K) := by
  refine okD (df_l_cell T) sc_l_cell (fun _ _ _ _ _ _ us hl => match us, hl with | [_, _], _ => rfl) ln_l_cell (fun cdv A outer s H vs Q E hr h => ⟨_,
      pss_cons (ps_if (px_truth (pv 0) (by intro _; rfl))
       (pss_one (ps_ret (pe_ix ix_seq (pv 0) (pe_op op_mod (pv 1) (pe_callB call_lenA (by rfl) (fr_len T) (by decide +kernel) (pa_cons (pv 0) pa_nil))) (fun _ _ => rfl))))
       (pss_nil))
      (pss_one (ps_ret pe_int)), ?_⟩)
  obtain ⟨a, ns, k, R, rfl, hS, h1⟩ := h
  have hL : SqL K H a (ns.map V.int) := hS.scr
  walk_at "go"
  refine y_trul hL ?_
  walk_at "s"
  cases ns with
  | nil =>
    walk_at "s"
    exact h1
  | cons z r =>
    walk_at "s"
    refine x_yes rfl ?_
    walk_at "s"
    refine x_lenL hL ?_
    walk_at "s"
    have hp : (0 : Int) < (((z :: r).map V.int).length : Nat) := by
      rw [List.length_map, List.length_cons]
      omega
    refine x_I hp ?_
    have e : (k : Int) % ((((z :: r).map V.int).length : Nat) : Int) = ((k % (z :: r).length : Nat) : Int) := by
      rw [List.length_map] <;> rfl
    rw [e]
    have hlt : k % (z :: r).length < (z :: r).length := Nat.mod_lt _ (by rw [List.length_cons]; omega)
    refine x_ixL hL (atI_nat (v := V.int ((z :: r).getD (k % (z :: r).length) 0)) (by rw [List.getElem?_map, getD_some (d := 0) hlt] <;> rfl)) ?_
    walk_at "s"
    have e2 : lcell (z :: r) k = (z :: r).getD (k % (z :: r).length) 0 := by
      unfold lcell
      rw [if_neg (by intro q; cases q)]
    rw [e2] at h1
    exact h1
def sp_l_mix (K : PySem.W.Frag) : Sp := fun vs H Q E => ∃ (a : Addr) (ns : List Int) (k : Nat) (R : List As), vs = [.ref a, .int (k : Nat)] ∧ Sep (ScrA K a ns :: R) H ∧ Q (.int (lmix ns k)) H
theorem ln_l_mix : ∀ vs H Q E, sp_l_mix K vs H Q E → vs.length = (["_law_script", "_law_k"] : List Str).length := by
  rintro _ _ _ _ ⟨a, ns, k, R, rfl, _⟩
  rfl
theorem sc_l_mix : FnScope ["_law_script", "_law_k", "_law_number"] ["_law_script", "_law_k"] (defScope s_l_mix) := ⟨rfl, rfl, rfl, by decide +kernel, rfl, by decide +kernel, by decide +kernel⟩
theorem ok_l_mix (T : Top K mg) : OkD P w K mg base d_l_mix 2 ["_law_script", "_law_k"] (sp_l_mix K) := by
  refine okD (df_l_mix T) sc_l_mix (fun _ _ _ _ _ _ us hl => match us, hl with | [_, _], _ => rfl) ln_l_mix (fun cdv A outer s H vs Q E hr h => ⟨_,
      pss_cons (ps_set (i := 2) sc_l_mix.nd rfl (Or.inl rfl) (pe_op op_mod (pe_op op_addA (px_call (ok_l_cell T) (hr.mono (by decide)) rfl (gl__law_cell T) (fun σ => paD σ) (pa_cons (pv 0) (pa_cons (pv 1) pa_nil))) (pe_op op_mulA pe_int (pe_op op_addA (pv 1) pe_int))) pe_int))
      (pss_cons (ps_set (i := 2) sc_l_mix.nd rfl (Or.inl rfl) (pe_op op_mod (pe_op op_pow (pv 2) pe_int) pe_int))
      (pss_one (ps_ret (pe_op op_mod (pe_op op_addA (pe_op op_mulA (pe_op op_fdiv (pv 2) pe_int) pe_int) (pv 2)) pe_int)))), ?_⟩)
  obtain ⟨a, ns, k, R, rfl, hS, h1⟩ := h
  walk_at "go"
  refine ⟨a, ns, k, R, rfl, hS, ?_⟩
  walk_at "s"
  refine x_mulI (.inl ⟨by decide, by decide⟩) ?_
  walk_at "s"
  refine x_I (by decide) ?_
  walk_at "s"
  have b1 := Int.emod_nonneg (lcell ns k + 104729 * ((k : Int) + 1)) (b := 4294967291) (by decide)
  have b2 := Int.emod_lt_of_pos (lcell ns k + 104729 * ((k : Int) + 1)) (b := 4294967291) (by decide)
  refine x_I ⟨by decide, by decide, by omega⟩ ?_
  walk_at "s"
  refine x_I (by decide) ?_
  walk_at "s"
  refine x_I ⟨by decide, by decide⟩ ?_
  walk_at "s"
  refine x_mulI (.inr ⟨by decide, by decide⟩) ?_
  walk_at "s"
  refine x_I (by decide) ?_
  walk_at "s"
  exact h1
theorem sz {n : Nat} (h : n ≤ 1000000) : n < sizeLine := Nat.lt_of_le_of_lt h (by decide)
theorem sz' {n : Nat} (h : n ≤ 1000000) : n ≤ sizeLine := Nat.le_of_lt (sz h)
def sp_l_draw (K : PySem.W.Frag) : Sp := fun vs H Q E => ∃ (a t : Addr) (ns : List Int) (n : Nat) (m : Int) (R : List As), vs = [.ref a, .ref t, .int m] ∧ 0 < m ∧ n ≤ 1000000 ∧ Sep (ScrA K a ns :: TownA t n :: R) H ∧
  ∀ H', Sep (ScrA K a ns :: TownA t (n + 1) :: R) H' → Q (.int (draw ns (n + 1) m)) H'
theorem ln_l_draw : ∀ vs H Q E, sp_l_draw K vs H Q E → vs.length = (["_law_script", "_law_town", "_law_many"] : List Str).length := by
  rintro _ _ _ _ ⟨a, t, ns, n, m, R, rfl, _⟩
  rfl
theorem sc_l_draw : FnScope ["_law_script", "_law_town", "_law_many"] ["_law_script", "_law_town", "_law_many"] (defScope s_l_draw) := ⟨rfl, rfl, rfl, by decide +kernel, rfl, by decide +kernel, by decide +kernel⟩
theorem ok_l_draw (T : Top K mg) : OkD P w K mg base d_l_draw 3 ["_law_script", "_law_town", "_law_many"] (sp_l_draw K) := by
  refine okD (df_l_draw T) sc_l_draw (fun _ _ _ _ _ _ us hl => match us, hl with | [_, _, _], _ => rfl) ln_l_draw (fun cdv A outer s H vs Q E hr h => ⟨_,
      pss_cons (ps_expr (pe_bm PySem.F.plainAttrs_list PySem.F.slot_list_append PySem.F.type_list_append mt_append (pv 1) (pa_cons pe_int pa_nil)))
      (pss_one (ps_ret (pe_op op_mod (pe_op op_fdiv (px_call (ok_l_mix T) (hr.mono (by decide)) rfl (gl__law_mix T) (fun σ => paD σ) (pa_cons (pv 0) (pa_cons (pe_callB call_lenA (by rfl) (fr_len T) (by decide +kernel) (pa_cons (pv 1) pa_nil)) pa_nil))) pe_int) (pv 2)))), ?_⟩)
  obtain ⟨a, t, ns, n, m, R, rfl, hm, hn, hS, h1⟩ := h
  replace hS : Sep (ScrA K a ns :: pt t (.lst (List.replicate n (V.int 0))) :: R) H := hS
  walk_at "go"
  refine y_bml (sqL hS) ?_
  walk_at "s"
  refine x_append hS (by rw [List.length_replicate]; exact sz hn) (fun H hS => ?_)
  have e : List.replicate n (V.int 0) ++ [V.int 0] = List.replicate (n + 1) (V.int 0) := List.replicate_succ'.symm
  rw [e] at hS
  walk_at "s"
  refine x_lenL (sqL hS) ?_
  walk_at "s"
  rw [List.length_replicate]
  refine ⟨a, ns, n + 1, _, rfl, hS.own a, ?_⟩
  walk_at "s"
  refine x_I ⟨by decide, by decide⟩ ?_
  walk_at "s"
  refine x_I hm ?_
  exact h1 _ (hS.of En.swap)
/-! ### a draw, a pick, by what is known of it -/
section
variable {a t q : Addr} {ns : List Int} {n : Nat} {m : Int} {xs : List V} {R : List As} {H : Hp} {Q : VK} {E : XK}
theorem draw_use (hm : 0 < m) (hn : n ≤ 1000000) (hS : Sep (ScrA K a ns :: TownA t n :: R) H) (k : ∀ (j : Nat) H', (j : Int) < m → Sep (ScrA K a ns :: TownA t (n + 1) :: R) H' → Q (.int (j : Nat)) H') : sp_l_draw K [.ref a, .ref t, .int m] H Q E := by
  refine ⟨a, t, ns, n, m, R, rfl, hm, hn, hS, fun H' hS' => ?_⟩
  have d := draw_ok ns (n + 1) hm
  have e : draw ns (n + 1) m = ((draw ns (n + 1) m).toNat : Nat) := by omega
  rw [e]
  exact k _ H' (by omega) hS'
end

theorem scr_sep {a : Addr} {ns : List Int} {H : Hp} (h : SqL K H a (ns.map V.int)) : Sep [ScrA K a ns] H := ⟨H, fun _ => none, Sb.refl H, empty_sb H, fun _ _ _ _ e => (nomatch e), h, trivial⟩
/-! ### the law's promise -/
def sp_law (K : PySem.W.Frag) : Sp := fun vs H Q E => ∃ (a : Addr) (ns : List Int), vs = [.ref a] ∧ Sep [ScrA K a ns] H ∧ ∀ H', Q (.bl true) H'
theorem ln_law : ∀ vs H Q E, sp_law K vs H Q E → vs.length = (["_law_script"] : List Str).length := by
  rintro _ _ _ _ ⟨a, ns, rfl, _⟩
  rfl
theorem law_start {a : Addr} {ns : List Int} {H : Hp} (hl : ns.length ≤ 63) (h : SqL K H a (ns.map V.int)) : sp_law K [.ref a] H (fun v _ => v = .bl true) (fun _ _ _ => False) := ⟨a, ns, rfl, scr_sep h, fun _ => rfl⟩

end
end TR

set_option Elab.async false
set_option linter.all false
set_option maxRecDepth 100000
set_option maxHeartbeats 4000000
/-! .. -/

namespace TR
open PySem PySem.Spec PyProof.Rows L2
section
variable {P : Program} {w : World} {K : PySem.W.Frag} {mg : Str → Option Value} {base : Heap}
/-! ### dice -/
def DiceR (K : PySem.W.Frag) (p : Addr) (n : Int) : As := ex fun dx => pt p (.ins (He.ga K "Dice") dx (nmDice.zip [.int n]))
instance {K : PySem.W.Frag} {p : Addr} {n : Int} : Kys (DiceR K p n) p := ⟨trivial⟩
instance {K : PySem.W.Frag} {p : Addr} {n : Int} : IsOb (DiceR K p n) p (He.ga K "Dice") nmDice := ⟨fun h ⟨dx, a⟩ => ⟨dx, _, a⟩⟩
def okSeed (s : Int) : Prop := 0 ≤ s ∧ s < 6075
def dnext (n : Int) : Int := (106 * n + 1283) % 6075
theorem dnext_ok (n : Int) : okSeed (dnext n) := ⟨Int.emod_nonneg _ (by decide), Int.emod_lt_of_pos _ (by decide)⟩
def sp_Dice_init (K : PySem.W.Frag) : Sp := fun vs H Q E => ∃ (p dx : Addr) (s : Int) (R : List As), vs = [.ref p, .int s] ∧ Sep (pt p (.ins (He.ga K "Dice") dx []) :: R) H ∧
  (okSeed s → ∀ H', Sep (DiceR K p s :: R) H' → Q .non H') ∧ (¬ okSeed s → ∀ H', Sep R H' → E (.ref (He.ga K "BadNumber")) none H')
theorem ln_Dice_init : ∀ vs H Q E, sp_Dice_init K vs H Q E → vs.length = (["self", "seed"] : List Str).length := by
  rintro _ _ _ _ ⟨p, dx, s, R, rfl, _⟩
  rfl
theorem sc_Dice_init : FnScope ["self", "seed"] ["self", "seed"] (defScope s_Dice_init) := ⟨rfl, rfl, rfl, by decide +kernel, rfl, by decide +kernel, by decide +kernel⟩
theorem ok_Dice_init (T : Top K mg) : OkD P w K mg base d_Dice_init 1 ["self", "seed"] (sp_Dice_init K) := by
  refine okD (df_Dice_init T) sc_Dice_init (fun _ _ _ _ _ _ us hl => match us, hl with | [_, _], _ => rfl) ln_Dice_init (fun cdv A outer s H vs Q E hr h => ⟨_,
      pss_cons (ps_if (pt_not (pt_chain op_le op_lt pe_int (pv 1) (px_int rfl (gi_WHEEL T))))
       (pss_one (px_raise rfl tkD rfl (gl_BadNumber T) (xc_BadNumber T)))
       (pss_nil))
      (pss_one (ps_fld (pv 0) (pv 1) rfl)), ?_⟩)
  obtain ⟨p, dx, s, R, rfl, hS, h1, h2⟩ := h
  walk_at "go"
  refine x_dec (fun ha => ?_) (fun ha => ?_)
  · walk_at "s"
    refine x_ndec (fun hb => ?_) (fun hb => ?_)
    · walk_at "s"
      exact h2 (fun z => hb z.2) _ hS.tail
    · walk_at "s"
      exact h1 ⟨ha, hb⟩ _ (hS.exi dx)
  · walk_at "s"
    exact h2 (fun z => ha z.1) _ hS.tail
def okMany (m : Int) : Prop := 1 ≤ m ∧ m ≤ 60
def dval (n m : Int) : Int := dnext n * m / 6075
theorem dval_ok (n : Int) {m : Int} (h : 1 ≤ m) : 0 ≤ dval n m ∧ dval n m < m := by
  obtain ⟨h1, h2⟩ := dnext_ok n
  refine ⟨Int.ediv_nonneg (Int.mul_nonneg h1 (by omega)) (by decide), Int.ediv_lt_of_lt_mul (by decide) ?_⟩
  rw [Int.mul_comm m]
  exact Int.mul_lt_mul_of_pos_right h2 (by omega)
def sp_Dice_below (K : PySem.W.Frag) : Sp := fun vs H Q E => ∃ (p : Addr) (n m : Int) (R : List As), vs = [.ref p, .int m] ∧ okSeed n ∧ Sep (DiceR K p n :: R) H ∧
  (okMany m → ∀ H', Sep (DiceR K p (dnext n) :: R) H' → Q (.int (dval n m)) H') ∧ (¬ okMany m → ∀ H', Sep (DiceR K p n :: R) H' → E (.ref (He.ga K "BadNumber")) none H')
theorem ln_Dice_below : ∀ vs H Q E, sp_Dice_below K vs H Q E → vs.length = (["self", "many"] : List Str).length := by
  rintro _ _ _ _ ⟨p, n, m, R, rfl, _⟩
  rfl
theorem sc_Dice_below : FnScope ["self", "many"] ["self", "many"] (defScope s_Dice_below) := ⟨rfl, rfl, rfl, by decide +kernel, rfl, by decide +kernel, by decide +kernel⟩
theorem ok_Dice_below (T : Top K mg) : OkD P w K mg base d_Dice_below 1 ["self", "many"] (sp_Dice_below K) := by
  refine okD (df_Dice_below T) sc_Dice_below (fun _ _ _ _ _ _ us hl => match us, hl with | [_, _], _ => rfl) ln_Dice_below (fun cdv A outer s H vs Q E hr h => ⟨_,
      pss_cons (ps_if (pt_not (pt_chain op_le op_le pe_int (pv 1) (px_int rfl (gi_MOST T))))
       (pss_one (px_raise rfl tkD rfl (gl_BadNumber T) (xc_BadNumber T)))
       (pss_nil))
      (pss_cons (ps_fld (pv 0) (pe_op op_mod (pe_op op_addA (pe_op op_mulA (px_int rfl (gi_TIMES T)) (pe_fld (pv 0) rfl)) (px_int rfl (gi_MORE T))) (px_int rfl (gi_WHEEL T))) rfl)
      (pss_one (ps_ret (pe_op op_fdiv (pe_op op_mulA (pe_fld (pv 0) rfl) (pv 1)) (px_int rfl (gi_WHEEL T)))))), ?_⟩)
  obtain ⟨p, n, m, R, rfl, hn, hS, h1, h2⟩ := h
  obtain ⟨dx, hS⟩ := hS.ex
  have hd := dnext_ok n
  walk_at "go"
  refine x_dec (fun ha => ?_) (fun ha => ?_)
  · walk_at "s"
    refine x_ndec (fun hb => ?_) (fun hb => ?_)
    · walk_at "s"
      exact h2 (fun z => hb z.2) _ (hS.exi dx)
    · walk_at "s"
      refine x_mulI (.inl ⟨by decide, by decide⟩) ?_
      walk_at "s"
      refine x_I (by decide) ?_
      walk_at "s"
      refine x_mulI (.inl ⟨by have := hd.1; omega, by have := hd.2; omega⟩) ?_
      walk_at "s"
      refine x_I ⟨by decide, by decide⟩ ?_
      exact h1 ⟨ha, hb⟩ _ (hS.exi dx)
  · walk_at "s"
    exact h2 (fun z => ha z.1) _ (hS.exi dx)
/-! ### mixed -/
def swp (xs : List V) (i j : Nat) : List V := (xs.set i (xs.getD j .non)).set j (xs.getD i .non)
theorem swp_length (xs : List V) (i j : Nat) : (swp xs i j).length = xs.length := by
  unfold swp
  rw [List.length_set, List.length_set]
/-- the thing at place k goes to a drawn place -/
def mixS (k : Nat) (s : Int × List V) : Int × List V := (dnext s.1, swp s.2 k (dval s.1 (k + 1)).toNat)
def mixI (L : Nat) : Nat → Int × List V → Int × List V
  | 0, s => s
  | i + 1, s => mixS (L - 1 - i) (mixI L i s)
theorem mixI_length (L : Nat) (s : Int × List V) : ∀ i, (mixI L i s).2.length = s.2.length
  | 0 => rfl
  | i + 1 => by
    show (swp _ _ _).length = _
    rw [swp_length, mixI_length L s i]
theorem mixI_ok (L : Nat) {s : Int × List V} (h : okSeed s.1) : ∀ i, okSeed (mixI L i s).1
  | 0 => h
  | i + 1 => dnext_ok _
def mixd (n : Int) (xs : List V) : Int × List V := mixI xs.length (xs.length - 1) (n, xs)
def sp_mixed (K : PySem.W.Frag) : Sp := fun vs H Q E => ∃ (p q : Addr) (n : Int) (xs : List V) (R : List As), vs = [.ref p, .ref q] ∧ okSeed n ∧ xs.length ≤ 60 ∧ Sep (DiceR K p n :: pt q (.lst xs) :: R) H ∧
  (∀ l H', Sep (pt l (.lst (mixd n xs).2) :: DiceR K p (mixd n xs).1 :: pt q (.lst xs) :: R) H' → Q (.ref l) H')
theorem ln_mixed : ∀ vs H Q E, sp_mixed K vs H Q E → vs.length = (["dice", "some"] : List Str).length := by
  rintro _ _ _ _ ⟨p, q, n, xs, R, rfl, _⟩
  rfl
theorem sc_mixed : FnScope ["dice", "some", "found", "k", "other"] ["dice", "some"] (defScope s_mixed) := ⟨rfl, rfl, rfl, by decide +kernel, rfl, by decide +kernel, by decide +kernel⟩
theorem ok_mixed (T : Top K mg) : OkD P w K mg base d_mixed 2 ["dice", "some"] (sp_mixed K) := by
  refine okD (df_mixed T) sc_mixed (fun _ _ _ _ _ _ us hl => match us, hl with | [_, _], _ => rfl) ln_mixed (fun cdv A outer s H vs Q E hr h => ⟨_,
      pss_cons (ps_set (i := 2) sc_mixed.nd rfl (Or.inl rfl) (pe_callTy call_listOf (by rfl) (fr_list T) (by decide +kernel) (pa_cons (pv 1) pa_nil)))
      (pss_cons (ps_for (passes_of rfl) rfl (pi_range3 rfl (fr_range T) (pa_cons (pe_op op_sub (pe_callB call_lenA (by rfl) (fr_len T) (by decide +kernel) (pa_cons (pv 2) pa_nil)) pe_int) (pa_cons pe_int (pa_cons (pe_un un_neg pe_int) pa_nil)))) (pg_name (i := 3) sc_mixed.nd rfl (Or.inl rfl))
       (pss_cons (ps_set (i := 4) sc_mixed.nd rfl (Or.inl rfl) (px_meth (ok_Dice_below T) (hr.mono (by decide)) (pv 0) (cl_Dice T) (me_Dice_below T) (fun σ => paD σ) (pa_cons (pe_op op_addA (pv 3) pe_int) pa_nil)))
        (pss_one (ps_asg (pe_tup (pa_cons (pe_ix ix_seq (pv 2) (pv 4) (fun _ _ => rfl)) (pa_cons (pe_ix ix_seq (pv 2) (pv 3) (fun _ _ => rfl)) pa_nil))) (pg_tup (n := 2) rfl (pgs_cons (pg_sub (pv 2) (pv 3) set_list) (pgs_cons (pg_sub (pv 2) (pv 4) set_list) pgs_nil)))))))
      (pss_one (ps_ret (pv 2)))), ?_⟩)
  obtain ⟨p, q, n, xs, R, rfl, hn, hx, hS, h1⟩ := h
  walk_at "go"
  refine x_listOf hS (sqL hS) fun l H hS => ?_
  walk_at "s"
  refine x_lenL (sqL hS) ?_
  walk_at "s"
  refine y_for3 (fun i σ H => ∃ a b : Option V, σ = [some (.ref p), some (.ref q), some (.ref l), a, b] ∧ Sep (pt l (.lst (mixI xs.length i (n, xs)).2) :: DiceR K p (mixI xs.length i (n, xs)).1 :: pt q (.lst xs) :: R) H)
    (by omega) (by omega) ⟨none, none, rfl, hS⟩ ?_ ?_
  · rintro i σ H hi ⟨a, b, rfl, hS⟩
    have hL : (mixI xs.length i (n, xs)).2.length = xs.length := mixI_length xs.length (n, xs) i
    have hok := mixI_ok xs.length (s := (n, xs)) hn i
    obtain ⟨k, hk, hk2⟩ : ∃ k : Nat, ((xs.length : Int) - 1 - (i : Nat)) = (k : Nat) ∧ xs.length - 1 - i = k := ⟨xs.length - 1 - i, by omega, rfl⟩
    have e2 : (mixI xs.length (i + 1) (n, xs)) = mixS k (mixI xs.length i (n, xs)) := by
      rw [← hk2] <;> rfl
    have dv := dval_ok (mixI xs.length i (n, xs)).1 (m := (k : Int) + 1) (by omega)
    rw [hk, e2]
    obtain ⟨s, hs⟩ : ∃ s, s = mixI xs.length i (n, xs) := ⟨_, rfl⟩
    rw [← hs] at hL hok dv hS ⊢
    walk_at "s"
    refine ⟨p, _, _, _, rfl, hok, hS.own p, fun _ H hS => ?_, fun hn => absurd (show okMany _ from ⟨by omega, by omega⟩) hn⟩
    walk_at "s"
    refine x_ixL (sqL hS) (atI_some (v := s.2.getD (dval s.1 (k + 1)).toNat .non) dv.1 (getD_some (by omega))) ?_
    walk_at "s"
    refine x_ixL (sqL hS) (atI_nat (v := s.2.getD k .non) (getD_some (by omega))) ?_
    walk_at "s"
    refine x_gtup (sqT hS) rfl ?_
    walk_at "s"
    refine y_setL hS (ixN_some (by omega) (by omega)) (fun H hS => ?_)
    walk_at "s"
    refine y_setL hS (ixN_some (by omega) (by rw [List.length_set]; omega)) (fun H hS => ?_)
    walk_at "s"
    refine ⟨_, _, rfl, ?_⟩
    rw [Int.toNat_natCast] at hS
    exact (show Sep (pt l (.lst (mixS k s).2) :: pt u _ :: DiceR K p (mixS k s).1 :: pt q (.lst xs) :: R) H from hS).of (En.cons (En.drop (En.cons (En.cons En.refl))))
  · rintro σ H ⟨a, b, rfl, hS⟩
    walk_at "s"
    refine h1 l _ ?_
    have e : ((xs.length : Int) - 1 - 0).toNat = xs.length - 1 := by omega
    rw [e] at hS
    exact hS

theorem swp_perm {xs : List V} {i j : Nat} (hi : i < xs.length) (hj : j < xs.length) : (swp xs i j).Perm xs := by
  unfold swp
  rw [List.getD_eq_getElem?_getD, List.getElem?_eq_getElem hj, List.getD_eq_getElem?_getD, List.getElem?_eq_getElem hi]
  show ((xs.set i xs[j]).set j xs[i]).Perm xs
  exact List.set_set_perm hi hj
theorem mixI_perm {L : Nat} {s : Int × List V} (hs : s.2.length = L) : ∀ i, i < L → (mixI L i s).2.Perm s.2
  | 0, _ => .refl _
  | i + 1, h => by
    have ih := mixI_perm hs i (by omega)
    have hl := mixI_length L s i
    have dv := dval_ok (mixI L i s).1 (m := ((L - 1 - i : Nat) : Int) + 1) (by omega)
    exact (swp_perm (by omega) (by omega)).trans ih
theorem mixd_perm (n : Int) (xs : List V) : (mixd n xs).2.Perm xs := by
  unfold mixd
  by_cases h : xs.length = 0
  · rw [h]
    exact .refl _
  · exact mixI_perm (L := xs.length) (s := (n, xs)) rfl (xs.length - 1) (by omega)
theorem mixd_ok {n : Int} (h : okSeed n) (xs : List V) : okSeed (mixd n xs).1 := mixI_ok _ (s := (n, xs)) h _

end
end TR

set_option Elab.async false
set_option linter.all false
set_option maxRecDepth 100000
set_option maxHeartbeats 4000000
/-! .. -/

namespace TR
open PySem PySem.Spec PyProof.Rows L2
section
variable {P : Program} {w : World} {K : PySem.W.Frag} {mg : Str → Option Value} {base : Heap}
/-! ### queues -/
structure QS where
  turn : List Int
  tunes : List Str
/-- the entries' tunes as a dict, from 1 on -/
def dN : Nat → List Str → List (Key × V)
  | _, [] => []
  | n, z :: r => (.inl ((n : Int) + 1), .str z) :: dN (n + 1) r
theorem dN_length : ∀ (n : Nat) (zs : List Str), (dN n zs).length = zs.length
  | _, [] => rfl
  | n, z :: r => by
    show (dN (n + 1) r).length + 1 = r.length + 1
    rw [dN_length]
theorem dN_val : ∀ (n : Nat) (zs : List Str) (i : Int), valV (dN n zs) (.inl i) = if (n : Int) < i then (zs[(i - n - 1).toNat]?).map V.str else none
  | n, [], i => by
    show none = _
    split <;> simp
  | n, z :: r, i => by
    show valV ((.inl ((n : Int) + 1), .str z) :: dN (n + 1) r) (.inl i) = _
    by_cases e : (n : Int) + 1 = i
    · rw [valV_pos (p := (Sum.inl ((n : Int) + 1), V.str z)) (congrArg Sum.inl e), if_pos (by omega), show (i - n - 1).toNat = 0 by omega] <;> rfl
    · rw [valV_neg (p := (Sum.inl ((n : Int) + 1), V.str z)) (fun q => e (Sum.inl.inj q)), dN_val (n + 1) r i]
      by_cases h : (n : Int) + 1 < i
      · rw [if_pos (by omega), if_pos (by omega), show (i - n - 1).toNat = (i - ((n + 1 : Nat) : Int) - 1).toNat + 1 by omega] <;> rfl
      · rw [if_neg (by omega), if_neg (by omega)]
theorem dN_snoc : ∀ (n : Nat) (zs : List Str) (z : Str), dN n (zs ++ [z]) = dN n zs ++ [(.inl ((n + zs.length : Nat) + 1 : Int), .str z)]
  | n, [], z => rfl
  | n, y :: r, z => by
    show (_ :: dN (n + 1) (r ++ [z])) = _
    rw [dN_snoc (n + 1) r z]
    show _ = (_ :: (dN (n + 1) r ++ _))
    rw [show n + 1 + r.length = n + (y :: r).length by rw [List.length_cons]; omega]
theorem dN_put (zs : List Str) (z : Str) : putK (dN 0 zs) (.inl ((zs.length : Int) + 1)) (.str z) = dN 0 (zs ++ [z]) := by
  rw [putK_new _ (by rw [dN_val, if_pos (by omega), List.getElem?_eq_none (by omega)] <;> rfl), dN_snoc, Nat.zero_add]
def QueueR (K : PySem.W.Frag) (p : Addr) (S : QS) : As := ex fun dx => ex fun t => ex fun l => all [pt p (.ins (He.ga K "Queue") dx (nmQueue.zip [.ref t, .ref l, .int (S.tunes.length : Nat)])), pt t (.dK (dN 0 S.tunes)), pt l (.lst (S.turn.map V.int))]
instance {K : PySem.W.Frag} {p : Addr} {S : QS} : Kys (QueueR K p S) p := ⟨trivial⟩
instance {K : PySem.W.Frag} {p : Addr} {S : QS} : IsOb (QueueR K p S) p (He.ga K "Queue") nmQueue := ⟨fun h ⟨dx, t, l, a⟩ => ⟨dx, _, Sep.get a⟩⟩
theorem Sep.opQ {p : Addr} {S : QS} {R : List As} {H : Hp} (h : Sep (QueueR K p S :: R) H) : ∃ dx t l, Sep (pt p (.ins (He.ga K "Queue") dx (nmQueue.zip [.ref t, .ref l, .int (S.tunes.length : Nat)])) :: pt t (.dK (dN 0 S.tunes)) :: pt l (.lst (S.turn.map V.int)) :: R) H := by
  obtain ⟨dx, h⟩ := h.ex
  obtain ⟨t, h⟩ := h.ex
  obtain ⟨l, h⟩ := h.ex
  exact ⟨dx, t, l, h.flat⟩
theorem Sep.clQ {p dx t l : Addr} {S : QS} {R : List As} {H : Hp} (h : Sep (pt p (.ins (He.ga K "Queue") dx (nmQueue.zip [.ref t, .ref l, .int (S.tunes.length : Nat)])) :: pt t (.dK (dN 0 S.tunes)) :: pt l (.lst (S.turn.map V.int)) :: R) H) : Sep (QueueR K p S :: R) H :=
  Sep.exi dx (Sep.exi t (Sep.exi l (Sep.wrap h)))
theorem Sep.clQ0 {p dx t l : Addr} {R : List As} {H : Hp} (h : Sep (pt p (.ins (He.ga K "Queue") dx (nmQueue.zip [.ref t, .ref l, .int 0])) :: pt l (.lst []) :: pt t (.dK []) :: R) H) : Sep (QueueR K p ⟨[], []⟩ :: R) H :=
  Sep.clQ (S := ⟨[], []⟩) (show Sep (pt p (.ins (He.ga K "Queue") dx (nmQueue.zip [.ref t, .ref l, .int 0])) :: pt t (.dK []) :: pt l (.lst []) :: R) H from h.of (En.cons En.swap))
theorem Sep.clQ1 {p dx t l : Addr} {S : QS} {n : Int} {R : List As} {H : Hp} (e : n = (S.tunes.length : Nat)) (h : Sep (pt l (.lst (S.turn.map V.int)) :: pt t (.dK (dN 0 S.tunes)) :: pt p (.ins (He.ga K "Queue") dx (nmQueue.zip [.ref t, .ref l, .int n])) :: R) H) : Sep (QueueR K p S :: R) H := by
  subst e
  exact Sep.clQ (p := p) (dx := dx) (t := t) (l := l) (h.of (En.cons (En.cons (En.cons En.refl))))
theorem Sep.clQ2 {p dx t l : Addr} {S : QS} {R : List As} {H : Hp} (h : Sep (pt l (.lst (S.turn.map V.int)) :: pt p (.ins (He.ga K "Queue") dx (nmQueue.zip [.ref t, .ref l, .int (S.tunes.length : Nat)])) :: pt t (.dK (dN 0 S.tunes)) :: R) H) : Sep (QueueR K p S :: R) H :=
  Sep.clQ (p := p) (dx := dx) (t := t) (l := l) (h.of (En.cons (En.cons (En.cons En.refl))))
/-- bounds that the machine asks -/
structure QS.Fit (S : QS) : Prop where
  turn : S.turn.length ≤ 1000
  tunes : S.tunes.length ≤ 100000
def sp_Queue_init (K : PySem.W.Frag) : Sp := fun vs H Q E => ∃ (p dx : Addr) (R : List As), vs = [.ref p] ∧ Sep (pt p (.ins (He.ga K "Queue") dx []) :: R) H ∧ ∀ H', Sep (QueueR K p ⟨[], []⟩ :: R) H' → Q .non H'
theorem ln_Queue_init : ∀ vs H Q E, sp_Queue_init K vs H Q E → vs.length = (["self"] : List Str).length := by
  rintro _ _ _ _ ⟨p, dx, R, rfl, _⟩
  rfl
theorem sc_Queue_init : FnScope ["self"] ["self"] (defScope s_Queue_init) := ⟨rfl, rfl, rfl, by decide +kernel, rfl, by decide +kernel, by decide +kernel⟩
theorem ok_Queue_init (T : Top K mg) : OkD P w K mg base d_Queue_init 1 ["self"] (sp_Queue_init K) := by
  refine okD (df_Queue_init T) sc_Queue_init (fun _ _ _ _ _ _ us hl => match us, hl with | [_], _ => rfl) ln_Queue_init (fun cdv A outer s H vs Q E hr h => ⟨_,
      pss_cons (ps_fld (pv 0) pe_dnewK rfl)
      (pss_cons (ps_fld (pv 0) (pe_lst pa_nil) rfl)
      (pss_one (ps_fld (pv 0) pe_int rfl))), ?_⟩)
  obtain ⟨p, dx, R, rfl, hS, h1⟩ := h
  walk_at "go"
  exact h1 _ hS.clQ0
def sp_Queue_entries (K : PySem.W.Frag) : Sp := fun vs H Q E => ∃ (p : Addr) (S : QS) (R : List As), vs = [.ref p] ∧ Sep (QueueR K p S :: R) H ∧ ∀ l H', Sep (pt l (.lst (S.turn.map V.int)) :: QueueR K p S :: R) H' → Q (.ref l) H'
theorem ln_Queue_entries : ∀ vs H Q E, sp_Queue_entries K vs H Q E → vs.length = (["self"] : List Str).length := by
  rintro _ _ _ _ ⟨p, S, R, rfl, _⟩
  rfl
theorem sc_Queue_entries : FnScope ["self"] ["self"] (defScope s_Queue_entries) := ⟨rfl, rfl, rfl, by decide +kernel, rfl, by decide +kernel, by decide +kernel⟩
theorem ok_Queue_entries (T : Top K mg) : OkD P w K mg base d_Queue_entries 1 ["self"] (sp_Queue_entries K) := by
  refine okD (df_Queue_entries T) sc_Queue_entries (fun _ _ _ _ _ _ us hl => match us, hl with | [_], _ => rfl) ln_Queue_entries (fun cdv A outer s H vs Q E hr h => ⟨_,
      pss_one (ps_ret (pe_callTy call_listOf (by rfl) (fr_list T) (by decide +kernel) (pa_cons (pe_fld (pv 0) rfl) pa_nil))), ?_⟩)
  obtain ⟨p, S, R, rfl, hS, h1⟩ := h
  obtain ⟨dx, t, l, hS⟩ := hS.opQ
  walk_at "go"
  refine x_listOf hS (sqL hS) fun u H hS => ?_
  exact h1 u _ (Sep.skip (fun _ => Sep.clQ) hS)
/-- a promise that an entry stands in the queue -/
def sp_Queue_need (K : PySem.W.Frag) : Sp := fun vs H Q E => ∃ (p : Addr) (e : Int) (S : QS) (R : List As), vs = [.ref p, .int e] ∧ Sep (QueueR K p S :: R) H ∧
  (e ∈ S.turn → ∀ H', Sep (QueueR K p S :: R) H' → Q .non H') ∧ (e ∉ S.turn → ∀ H', Sep (QueueR K p S :: R) H' → E (.ref (He.ga K "BadEntry")) none H')
theorem ln_Queue_need : ∀ vs H Q E, sp_Queue_need K vs H Q E → vs.length = (["self", "entry"] : List Str).length := by
  rintro _ _ _ _ ⟨p, e, S, R, rfl, _⟩
  rfl
theorem sc_Queue_need : FnScope ["self", "entry"] ["self", "entry"] (defScope s_Queue_need) := ⟨rfl, rfl, rfl, by decide +kernel, rfl, by decide +kernel, by decide +kernel⟩
theorem ok_Queue_need (T : Top K mg) : OkD P w K mg base d_Queue_need 1 ["self", "entry"] (sp_Queue_need K) := by
  refine okD (df_Queue_need T) sc_Queue_need (fun _ _ _ _ _ _ us hl => match us, hl with | [_, _], _ => rfl) ln_Queue_need (fun cdv A outer s H vs Q E hr h => ⟨_,
      pss_one (ps_if (pt_cmpR op_notIn_seq (pv 1) (pe_fld (pv 0) rfl) (by rfl))
       (pss_one (px_raise rfl tkD rfl (gl_BadEntry T) (xc_BadEntry T)))
       (pss_nil)), ?_⟩)
  obtain ⟨p, e, S, R, rfl, hS, h1, h2⟩ := h
  obtain ⟨dx, t, l, hS⟩ := hS.opQ
  walk_at "go"
  refine x_ninI (sqL hS) ?_
  walk_at "s"
  refine x_ndec (fun hn => ?_) (fun hy => ?_)
  · walk_at "s"
    exact h2 hn _ hS.clQ
  · walk_at "s"
    exact h1 hy _ hS.clQ
def QS.tune (S : QS) (e : Int) : Option Str := if 1 ≤ e then S.tunes[(e - 1).toNat]? else none
theorem QS.tune_val (S : QS) (e : Int) : valV (dN 0 S.tunes) (.inl e) = (S.tune e).map V.str := by
  rw [dN_val]
  unfold QS.tune
  by_cases h : 1 ≤ e
  · rw [if_pos (by omega), if_pos h, show (e - ((0 : Nat) : Int) - 1).toNat = (e - 1).toNat by omega]
  · rw [if_neg (by omega), if_neg h] <;> rfl
def sp_Queue_tune (K : PySem.W.Frag) : Sp := fun vs H Q E => ∃ (p : Addr) (e : Int) (S : QS) (R : List As), vs = [.ref p, .int e] ∧ Sep (QueueR K p S :: R) H ∧
  (∀ z, S.tune e = some z → ∀ H', Sep (QueueR K p S :: R) H' → Q (.str z) H') ∧ (S.tune e = none → ∀ H', Sep (QueueR K p S :: R) H' → E (.ref (He.ga K "BadEntry")) none H')
theorem ln_Queue_tune : ∀ vs H Q E, sp_Queue_tune K vs H Q E → vs.length = (["self", "entry"] : List Str).length := by
  rintro _ _ _ _ ⟨p, e, S, R, rfl, _⟩
  rfl
theorem sc_Queue_tune : FnScope ["self", "entry"] ["self", "entry"] (defScope s_Queue_tune) := ⟨rfl, rfl, rfl, by decide +kernel, rfl, by decide +kernel, by decide +kernel⟩
theorem ok_Queue_tune (T : Top K mg) : OkD P w K mg base d_Queue_tune 1 ["self", "entry"] (sp_Queue_tune K) := by
  refine okD (df_Queue_tune T) sc_Queue_tune (fun _ _ _ _ _ _ us hl => match us, hl with | [_, _], _ => rfl) ln_Queue_tune (fun cdv A outer s H vs Q E hr h => ⟨_,
      pss_cons (ps_if (pt_cmp (pc_dnotin (hu_of hr) (pv 1) (pe_fld (pv 0) rfl)))
       (pss_one (px_raise rfl tkD rfl (gl_BadEntry T) (xc_BadEntry T)))
       (pss_nil))
      (pss_one (ps_ret (pe_dget (hu_of hr) (pe_fld (pv 0) rfl) (pv 1) (fun _ _ => rfl)))), ?_⟩)
  obtain ⟨p, e, S, R, rfl, hS, h1, h2⟩ := h
  obtain ⟨dx, t, l, hS⟩ := hS.opQ
  walk_at "go"
  refine y_dni hS ?_
  rw [QS.tune_val]
  walk_at "s"
  cases hz : S.tune e with
  | none =>
    walk_at "s"
    exact h2 hz _ hS.clQ
  | some z =>
    walk_at "s"
    refine x_no rfl ?_
    walk_at "s"
    refine y_dgi hS (by rw [QS.tune_val, hz] <;> rfl) ?_
    exact h1 z hz _ hS.clQ
def okPut (S : QS) (pl : Int) : Prop := 0 ≤ pl ∧ pl ≤ (S.turn.length : Nat) ∧ S.turn.length ≠ 12
instance (S : QS) (pl : Int) : Decidable (okPut S pl) := by unfold okPut; infer_instance
def insAt (xs : List Int) (i : Nat) (y : Int) : List Int := xs.take i ++ [y] ++ xs.drop i
def QS.put (S : QS) (z : Str) (pl : Nat) : QS := ⟨insAt S.turn pl ((S.tunes.length : Nat) + 1 : Int), S.tunes ++ [z]⟩
def sp_Queue_put (K : PySem.W.Frag) : Sp := fun vs H Q E => ∃ (p : Addr) (z : Str) (pl : Int) (S : QS) (R : List As), vs = [.ref p, .str z, .int pl] ∧ S.Fit ∧ Sep (QueueR K p S :: R) H ∧
  (okPut S pl → ∀ H', Sep (QueueR K p (S.put z pl.toNat) :: R) H' → Q (.int ((S.tunes.length : Nat) + 1)) H') ∧ (¬ okPut S pl → ∀ H', Sep (QueueR K p S :: R) H' → E (.ref (He.ga K "BadNumber")) none H')
theorem ln_Queue_put : ∀ vs H Q E, sp_Queue_put K vs H Q E → vs.length = (["self", "name", "place"] : List Str).length := by
  rintro _ _ _ _ ⟨p, z, pl, S, R, rfl, _⟩
  rfl
theorem sc_Queue_put : FnScope ["self", "name", "place"] ["self", "name", "place"] (defScope s_Queue_put) := ⟨rfl, rfl, rfl, by decide +kernel, rfl, by decide +kernel, by decide +kernel⟩
theorem ok_Queue_put (T : Top K mg) : OkD P w K mg base d_Queue_put 1 ["self", "name", "place"] (sp_Queue_put K) := by
  refine okD (df_Queue_put T) sc_Queue_put (fun _ _ _ _ _ _ us hl => match us, hl with | [_, _, _], _ => rfl) ln_Queue_put (fun cdv A outer s H vs Q E hr h => ⟨_,
      pss_cons (ps_if (PW.pt (pw_or (pt_not (pt_chain op_le op_le pe_int (pv 2) (pe_callB call_lenA (by rfl) (fr_len T) (by decide +kernel) (pa_cons (pe_fld (pv 0) rfl) pa_nil)))) (pw_or1 (pt_cmpR (op_eqA hr.units) (pe_callB call_lenA (by rfl) (fr_len T) (by decide +kernel) (pa_cons (pe_fld (pv 0) rfl) pa_nil)) (px_int rfl (gi_MOST_ENTRIES T)) (nomark _)))))
       (pss_one (px_raise rfl tkD rfl (gl_BadNumber T) (xc_BadNumber T)))
       (pss_nil))
      (pss_cons (ps_fld (pv 0) (pe_op op_addA (pe_fld (pv 0) rfl) pe_int) rfl)
      (pss_cons (ps_dput (hu_of hr) (pe_fld (pv 0) rfl) (pe_fld (pv 0) rfl) (pv 1) rfl)
      (pss_cons (ps_expr (pe_bm PySem.F.plainAttrs_list PySem.F.slot_list_insert PySem.F.type_list_insert mt_ins (pe_fld (pv 0) rfl) (pa_cons (pv 2) (pa_cons (pe_fld (pv 0) rfl) pa_nil))))
      (pss_one (ps_ret (pe_fld (pv 0) rfl)))))), ?_⟩)
  obtain ⟨p, z, pl, S, R, rfl, hf, hS, h1, h2⟩ := h
  obtain ⟨dx, t, l, hS⟩ := hS.opQ
  have bad : ¬ okPut S pl → ∀ {H : Hp}, Sep _ H → E (.ref (He.ga K "BadNumber")) none H := fun hb H hS => h2 hb _ (Sep.clQ (R := R) (dx := dx) (t := t) (l := l) hS)
  have e1 : (S.turn.map V.int).length = S.turn.length := List.length_map _
  walk_at "go"
  refine x_dec (fun ha => ?_) (fun ha => ?_)
  · walk_at "s"
    refine x_lenL (sqL hS) ?_
    walk_at "s"
    refine x_ndec (fun hb => ?_) (fun hb => ?_)
    · walk_at "s"
      exact bad (fun z => hb (by rw [e1]; exact z.2.1)) hS
    · walk_at "s"
      refine x_lenL (sqL hS) ?_
      walk_at "s"
      refine x_dec (fun hc => ?_) (fun hc => ?_)
      · walk_at "s"
        exact bad (fun z => z.2.2 (by rw [e1] at hc; omega)) hS
      · walk_at "s"
        rw [e1] at hb hc
        have ok : okPut S pl := ⟨ha, hb, by omega⟩
        have := hf.turn
        have := hf.tunes
        refine y_dpi hS (by rw [dN_length]; omega) fun H hS => ?_
        rw [dN_put] at hS
        walk_at "s"
        refine y_bml (sqL hS) ?_
        walk_at "s"
        refine x_insI hS (by omega) ⟨by omega, by omega⟩ fun H hS => ?_
        walk_at "s"
        exact h1 ok _ (Sep.clQ1 (S := S.put z pl.toNat) (by show _ = ((S.tunes ++ [z]).length : Int); rw [List.length_append]; rfl) hS)
  · walk_at "s"
    exact bad (fun z => ha z.1) hS

def QS.remove (S : QS) (e : Int) : QS := ⟨S.turn.eraseIdx (S.turn.idxOf e), S.tunes⟩
def sp_Queue_remove (K : PySem.W.Frag) : Sp := fun vs H Q E => ∃ (p : Addr) (e : Int) (S : QS) (R : List As), vs = [.ref p, .int e] ∧ Sep (QueueR K p S :: R) H ∧
  (e ∈ S.turn → ∀ H', Sep (QueueR K p (S.remove e) :: R) H' → Q .non H') ∧ (e ∉ S.turn → ∀ H', Sep (QueueR K p S :: R) H' → E (.ref (He.ga K "BadEntry")) none H')
theorem ln_Queue_remove : ∀ vs H Q E, sp_Queue_remove K vs H Q E → vs.length = (["self", "entry"] : List Str).length := by
  rintro _ _ _ _ ⟨p, e, S, R, rfl, _⟩
  rfl
theorem sc_Queue_remove : FnScope ["self", "entry"] ["self", "entry"] (defScope s_Queue_remove) := ⟨rfl, rfl, rfl, by decide +kernel, rfl, by decide +kernel, by decide +kernel⟩
theorem ok_Queue_remove (T : Top K mg) : OkD P w K mg base d_Queue_remove 2 ["self", "entry"] (sp_Queue_remove K) := by
  refine okD (df_Queue_remove T) sc_Queue_remove (fun _ _ _ _ _ _ us hl => match us, hl with | [_, _], _ => rfl) ln_Queue_remove (fun cdv A outer s H vs Q E hr h => ⟨_,
      pss_cons (ps_expr (px_meth (ok_Queue_need T) (hr.mono (by decide)) (pv 0) (cl_Queue T) (me_Queue_need T) (fun σ => paD σ) (pa_cons (pv 1) pa_nil)))
      (pss_one (ps_expr (pe_bm PySem.F.plainAttrs_list PySem.F.slot_list_remove PySem.F.type_list_remove mt_remove (pe_fld (pv 0) rfl) (pa_cons (pv 1) pa_nil)))), ?_⟩)
  obtain ⟨p, e, S, R, rfl, hS, h1, h2⟩ := h
  walk_at "go"
  refine ⟨p, e, S, R, rfl, hS, fun hy H hS => ?_, h2⟩
  obtain ⟨dx, t, l, hS⟩ := hS.opQ
  walk_at "s"
  refine y_bml (sqL hS) ?_
  walk_at "s"
  refine x_remI hS hy fun H hS => ?_
  walk_at "s"
  exact h1 hy _ (Sep.clQ2 (S := S.remove e) hS)
def okMove (S : QS) (pl : Int) : Prop := 0 ≤ pl ∧ pl < (S.turn.length : Nat)
instance (S : QS) (pl : Int) : Decidable (okMove S pl) := by unfold okMove; infer_instance
def QS.move (S : QS) (e : Int) (pl : Nat) : QS := ⟨insAt (S.turn.eraseIdx (S.turn.idxOf e)) pl e, S.tunes⟩
def sp_Queue_move (K : PySem.W.Frag) : Sp := fun vs H Q E => ∃ (p : Addr) (e pl : Int) (S : QS) (R : List As), vs = [.ref p, .int e, .int pl] ∧ S.Fit ∧ Sep (QueueR K p S :: R) H ∧
  (e ∈ S.turn → okMove S pl → ∀ H', Sep (QueueR K p (S.move e pl.toNat) :: R) H' → Q .non H') ∧ (e ∉ S.turn → ∀ H', Sep (QueueR K p S :: R) H' → E (.ref (He.ga K "BadEntry")) none H') ∧
  (e ∈ S.turn → ¬ okMove S pl → ∀ H', Sep (QueueR K p S :: R) H' → E (.ref (He.ga K "BadNumber")) none H')
theorem ln_Queue_move : ∀ vs H Q E, sp_Queue_move K vs H Q E → vs.length = (["self", "entry", "place"] : List Str).length := by
  rintro _ _ _ _ ⟨p, e, pl, S, R, rfl, _⟩
  rfl
def sp_Queue_place (K : PySem.W.Frag) : Sp := fun vs H Q E => ∃ (p : Addr) (e : Int) (S : QS) (R : List As), vs = [.ref p, .int e] ∧ Sep (QueueR K p S :: R) H ∧
  (e ∈ S.turn → ∀ H', Sep (QueueR K p S :: R) H' → Q (.int (S.turn.idxOf e : Nat)) H') ∧ (e ∉ S.turn → ∀ H', Sep (QueueR K p S :: R) H' → E (.ref (He.ga K "BadEntry")) none H')
theorem ln_Queue_place : ∀ vs H Q E, sp_Queue_place K vs H Q E → vs.length = (["self", "entry"] : List Str).length := by
  rintro _ _ _ _ ⟨p, e, S, R, rfl, _⟩
  rfl
theorem sc_Queue_place : FnScope ["self", "entry"] ["self", "entry"] (defScope s_Queue_place) := ⟨rfl, rfl, rfl, by decide +kernel, rfl, by decide +kernel, by decide +kernel⟩
theorem ok_Queue_place (T : Top K mg) : OkD P w K mg base d_Queue_place 2 ["self", "entry"] (sp_Queue_place K) := by
  refine okD (df_Queue_place T) sc_Queue_place (fun _ _ _ _ _ _ us hl => match us, hl with | [_, _], _ => rfl) ln_Queue_place (fun cdv A outer s H vs Q E hr h => ⟨_,
      pss_cons (ps_expr (px_meth (ok_Queue_need T) (hr.mono (by decide)) (pv 0) (cl_Queue T) (me_Queue_need T) (fun σ => paD σ) (pa_cons (pv 1) pa_nil)))
      (pss_one (ps_ret (pe_bm PySem.F.plainAttrs_list PySem.F.slot_list_index PySem.F.type_list_index mt_index (pe_fld (pv 0) rfl) (pa_cons (pv 1) pa_nil)))), ?_⟩)
  obtain ⟨p, e, S, R, rfl, hS, h1, h2⟩ := h
  walk_at "go"
  refine ⟨p, e, S, R, rfl, hS, fun hy H hS => ?_, h2⟩
  obtain ⟨dx, t, l, hS⟩ := hS.opQ
  walk_at "s"
  refine y_bml (sqL hS) ?_
  walk_at "s"
  refine x_ixI (sqL hS) hy ?_
  exact h1 hy _ hS.clQ

end
end TR

set_option Elab.async false
set_option linter.all false
set_option maxRecDepth 100000
set_option maxHeartbeats 4000000
/-! More steps: dicts with named things in them, dict displays, optional numbers, filters. -/
namespace TR
open PySem PySem.Spec PyProof.Rows L2
/-- what stands at a name in a dict -/
class DGs (kvs : List (Key × V)) (k : Str) (v : outParam V) : Prop where
  h : valV kvs (.inr k) = some v
class DPs (kvs : List (Key × V)) (k : Str) (v : V) (kvs' : outParam (List (Key × V))) : Prop where
  h : putK kvs (.inr k) v = kvs'
  hl : kvs.length ≤ 1000000
def oV : Option Int → V
  | none => .non
  | some i => .int i
def hasO (e : Option Int) (ns : List Int) : Bool := match e with
  | none => false
  | some i => decide (i ∈ ns)
def kPa (tv : TE) (trs : List (TE × TE)) (σ : L2.St) (Q : List (V × V) → Hp → Prop) : VK := fun x H => tv σ H fun y H2 => tPairs trs σ H2 fun ps H3 => Q ((x, y) :: ps) H3
def kPb (x : V) (trs : List (TE × TE)) (σ : L2.St) (Q : List (V × V) → Hp → Prop) : VK := fun y H2 => tPairs trs σ H2 fun ps H3 => Q ((x, y) :: ps) H3
def kPc (x y : V) (Q : List (V × V) → Hp → Prop) : List (V × V) → Hp → Prop := fun ps H3 => Q ((x, y) :: ps) H3
def kDsp (p : Addr) (Q : VK) : List (V × V) → Hp → Prop := fun ps H2 => H2 p = some (.dK []) ∧ ∃ kvs : List (Key × V), ps = kvs.map (fun kv => (kV kv.1, kv.2)) ∧ kvs.length ≤ 15 ∧ Q (.ref p) (upd H2 p (.dK (mergeK [] kvs)))
section
variable {K : PySem.W.Frag} {σ : L2.St} {H : Hp} {v x y : V} {Q : VK} {p q : Addr} {L R R' : List As} {te td ty tv tk : TE} {t : TS} {D : Ends} {kvs kvs' : List (Key × V)} {k : Str}
theorem y_dgo {s : Str} (hS : Sep L H) [a : At p L (.dK kvs) R] [d : DGs kvs s v] (q : Q v H) : kDg2 (.ref p) Q (.str s) H := y_dgs hS d.h q
theorem y_dpo {s : Str} (hS : Sep L H) [a : At p L (.dK kvs) R] [d : DPs kvs s v kvs'] (q : ∀ H', Sep (pt p (.dK kvs') :: R) H' → D.nx σ H') : kDp3 v (.ref p) D σ (.str s) H := y_dps hS d.hl fun H' h => q H' (d.h ▸ h)
theorem x_disp {trs : List (TE × TE)} (hS : Sep L H) (q : ∀ p H', Sep (pt p (.dK []) :: L) H' → tPairs trs σ H' (kDsp p Q)) : tDisp trs σ H Q := fun p hp => q p _ (Sep.new hp hS)
theorem x_prs {trs : List (TE × TE)} {Q : List (V × V) → Hp → Prop} (q : tk σ H (kPa tv trs σ Q)) : tPairs ((tk, tv) :: trs) σ H Q := q
theorem y_pa {trs : List (TE × TE)} {Q : List (V × V) → Hp → Prop} (q : tv σ H (kPb x trs σ Q)) : kPa tv trs σ Q x H := q
theorem y_pb {trs : List (TE × TE)} {Q : List (V × V) → Hp → Prop} (q : tPairs trs σ H (kPc x y Q)) : kPb x trs σ Q y H := q
theorem y_pc {ps : List (V × V)} {Q : List (V × V) → Hp → Prop} (q : Q ((x, y) :: ps) H) : kPc x y Q ps H := q
theorem x_prn {Q : List (V × V) → Hp → Prop} (q : Q [] H) : tPairs [] σ H Q := q
theorem y_dsp {ps : List (V × V)} (hS : Sep L H) [a : At p L (.dK []) R] (kvs : List (Key × V)) (e : ps = kvs.map (fun kv => (kV kv.1, kv.2))) (hl : kvs.length ≤ 15) (hm : mergeK [] kvs = kvs') (q : ∀ H', Sep (pt p (.dK kvs') :: R) H' → Q (.ref p) H') : kDsp p Q ps H :=
  ⟨hS.at_, kvs, e, hl, hm ▸ q _ (hm ▸ Sep.put (o := .dK []) (fun z => z) (a.en H hS))⟩
theorem in_oV (e : Option Int) (ns : List Int) : inV (oV e) (ns.map V.int) = hasO e ns := by
  cases e with
  | some i => exact in_ints i ns
  | none =>
    unfold inV
    rw [List.any_map]
    exact List.any_eq_false.mpr fun n _ => (by intro z; cases z)
theorem flat_oV (e : Option Int) : flatV (oV e) = true := by cases e <;> rfl
theorem x_inO {e : Option Int} {ns : List Int} (h : SqL K H p (ns.map V.int)) (q : Q (.bl (hasO e ns)) H) : rIn K false (oV e) (.ref p) H Q := x_in h (flat_oV e) (flat_ints ns) (by rw [in_oV]; exact q)
theorem x_ninO {e : Option Int} {ns : List Int} (h : SqL K H p (ns.map V.int)) (q : Q (.bl (!hasO e ns)) H) : rIn K true (oV e) (.ref p) H Q := x_nin h (flat_oV e) (flat_ints ns) (by rw [in_oV]; exact q)
theorem oV_inj {a b : Option Int} : oV a = oV b ↔ a = b := by
  constructor
  · intro h
    cases a <;> cases b
    · rfl
    · cases h
    · cases h
    · cases h; rfl
  · rintro rfl; rfl
theorem scal_o (a b : Option Int) : scal (oV a) (oV b) = true := by cases a <;> cases b <;> rfl
theorem x_eqO {a b : Option Int} (q : Q (.bl (decide (a = b))) H) : rEqA K (oV a) (oV b) H Q := x_eqS (scal_o a b) (by rw [show decide (oV a = oV b) = decide (a = b) from decide_eq_decide.mpr oV_inj]; exact q)
theorem x_neO {a b : Option Int} (q : Q (.bl (!decide (a = b))) H) : rNeA K (oV a) (oV b) H Q := x_neS (scal_o a b) (by rw [show decide (oV a = oV b) = decide (a = b) from decide_eq_decide.mpr oV_inj]; exact q)
theorem x_eqI1 {i : Int} {b : Option Int} (q : Q (.bl (decide (some i = b))) H) : rEqA K (.int i) (oV b) H Q := x_eqO (a := some i) q
theorem x_neI1 {i : Int} {b : Option Int} (q : Q (.bl (!decide (some i = b))) H) : rNeA K (.int i) (oV b) H Q := x_neO (a := some i) q
theorem x_neJ {i : Int} {b : Option Int} (q : Q (.bl (!decide (some i = b))) H) : rNe (.int i) (oV b) H Q := ⟨scal_o (some i) b, by rw [show decide (V.int i = oV b) = decide (some i = b) from decide_eq_decide.mpr (oV_inj (a := some i))]; exact q⟩
theorem x_isO {e : Option Int} (q : Q (.bl (decide (e = none))) H) : rIsN (oV e) .non H Q := x_isN (by rw [show decide (oV e = V.non) = decide (e = none) from decide_eq_decide.mpr (oV_inj (b := none))]; exact q)
/-- a list against an empty one -/
theorem eqv_nil (ns : List Int) : PyData.eqv (.list (ns.map PyData.int)) (.list ([].map PyData.int)) = ns.isEmpty := by cases ns <;> rfl
theorem x_eqLn {ns : List Int} (h : SqL K H p (ns.map V.int)) (h2 : SqL K H q []) (k : Q (.bl ns.isEmpty) H) : rEqA K (.ref p) (.ref q) H Q :=
  x_eqD (dp_ints (ns := ns) h) (dp_ints (ns := []) h2) (shaped_ints ns) (shaped_ints []) (by rw [eqv_nil]; exact k)
theorem x_neLn {ns : List Int} (h : SqL K H p (ns.map V.int)) (h2 : SqL K H q []) (k : Q (.bl (!ns.isEmpty)) H) : rNeA K (.ref p) (.ref q) H Q :=
  x_neD (dp_ints (ns := ns) h) (dp_ints (ns := []) h2) (shaped_ints ns) (shaped_ints []) (by rw [eqv_nil]; exact k)
theorem x_pop0 {n : Int} {r : List Int} (hS : Sep L H) [a : At p L (.lst ((n :: r).map V.int)) R] (q : ∀ H', Sep (pt p (.lst (r.map V.int)) :: R) H' → Q (.int n) H') : rPopAt (.ref p) [.int 0] H Q :=
  ⟨p, (n :: r).map V.int, 0, 0, .int n, rfl, rfl, hS.at_, by decide, by decide, by
    rw [List.length_map, List.length_cons]
    simp [seqIndex?], rfl, q _ (Sep.put (o := .lst ((n :: r).map V.int)) (fun z => z) (a.en H hS))⟩
/-- [x for x in a list of numbers if ..] -/
theorem y_lcF {g : TG} {tt : TT} {vs : List Nat} {ns : List Int} (f : Int → Bool) (hS : Sep L H) [a : At p L (.lst (ns.map V.int)) R] (hn : ns.length ≤ 100000)
    (hs : ∀ D (acc : List Int) x H, acc.length ≤ 100000 → Sep (pt D (.lst (acc.map V.int)) :: L) H → g (.int x) (wipe σ vs) H (kLcb tt te D σ vs (fun H' => Sep (pt D (.lst ((if f x then acc ++ [x] else acc).map V.int)) :: L) H')))
    (hd : ∀ D H, Sep (pt D (.lst ((ns.filter f).map V.int)) :: L) H → Q (.ref D) H) : kLcL K g tt te vs σ Q (.ref p) H := by
  refine y_lcL (xs := ns.map V.int) (sqL hS) hS (fun D i H => Sep (pt D (.lst (((ns.take i).filter f).map V.int)) :: L) H) (fun D H h => h) (fun D i H _ h => sqL h) ?_ ?_
  · intro D i x H hx hS
    rw [List.getElem?_map] at hx
    obtain ⟨n, hn', rfl⟩ := Option.map_eq_some_iff.mp hx
    have hl := (List.getElem?_eq_some_iff.mp hn').1
    have e : (ns.take (i + 1)).filter f = if f n then (ns.take i).filter f ++ [n] else (ns.take i).filter f := by
      rw [List.take_add_one, hn', List.filter_append]
      cases hf : f n
      · simp [hf]
      · simp [hf]
    rw [e]
    refine hs D _ n H ?_ hS
    exact Nat.le_trans (List.length_filter_le _ _) (Nat.le_trans (List.length_take_le' _ _) hn)
  · intro D H h
    rw [List.length_map, List.take_length] at h
    exact hd D H h
end
/-- [e for k in range(n)] -/
def kLcR (g : TG) (tt : TT) (te : TE) (vs : List Nat) (σ : L2.St) (Q : VK) : List V → Hp → Prop := fun xs H1 => ∃ j : Int, xs = [.int j] ∧ -(2 ^ 62) ≤ j ∧ j < 2 ^ 62 ∧ ∀ D, H1 D = none → ∃ W : Nat → Nat → Hp → Prop, (∃ m, W 0 m (upd H1 D (.lst []))) ∧ ∀ i m H, W i m H →
  ((Itr 0 j.toNat).stop i H ∧ Q (.ref D) H) ∨ ((Itr 0 j.toNat).go i H ∧ ∃ Nx : Hp → Prop, (∀ H', Nx H' → ∃ m', m' < m ∧ W (i + 1) m' H') ∧ ∀ x H', (Itr 0 j.toNat).yld i H x H' → g x (wipe σ vs) H' fun σ2 H2 => wipe σ2 vs = wipe σ vs ∧ tt σ2 H2 fun b H3 =>
    if b = true then te σ2 H3 fun y H4 => ∃ acc, H4 D = some (.lst acc) ∧ acc.length < sizeLine ∧ Nx (upd H4 D (.lst (acc ++ [y]))) else Nx H3)
theorem x_lcR {ta : TA} {g : TG} {tt : TT} {te : TE} {vs : List Nat} {σ : L2.St} {H : Hp} {Q : VK} (q : ta σ H (kLcR g tt te vs σ Q)) : tLc (iRng1 ta) g tt te vs σ H Q := q
theorem y_lcR {g : TG} {tt : TT} {te : TE} {vs : List Nat} {σ : L2.St} {H : Hp} {Q : VK} {L : List As} {n : Nat} (hn : n ≤ 1000000) (hS : Sep L H) (P : Addr → Nat → Hp → Prop) (h0 : ∀ D H', Sep (pt D (.lst []) :: L) H' → P D 0 H')
    (hs : ∀ D i H, i < n → P D i H → g (.int (i : Nat)) (wipe σ vs) H (kLcb tt te D σ vs (P D (i + 1)))) (hd : ∀ D H, P D n H → Q (.ref D) H) : kLcR g tt te vs σ Q [.int (n : Nat)] H :=
  ⟨n, rfl, by omega, by omega, by
    rw [Int.toNat_natCast]
    exact fun D hD => lc_range (lo := 0) (P D) (h0 D _ (Sep.new hD hS)) (fun i H hi p => by rw [Int.zero_add]; exact hs D i H hi p) (hd D)⟩
end TR

set_option Elab.async false
set_option linter.all false
set_option maxRecDepth 100000
set_option maxHeartbeats 4000000
/-! Ways joined: what stands behind an if is walked once. -/
namespace TR
open PySem PySem.Spec PyProof.Rows L2
def tStop (t u : TS) : TS := tSeq t u
def tStopE (t : TE) : TE := t
def tStopT (t : TT) : TT := t
section
variable {σ : L2.St} {H : Hp} {t u v : TS} {D : Ends} {c c2 : TT} {ta tb : TE} {Q : VK} {QT : Bool → Hp → Prop}
theorem x_stop (q : tStop (tIfS c t u) v D σ H) : tSeq (tIfS c t u) v D σ H := q
theorem y_go (q : t { D with nx := u D } σ H) : tStop t u D σ H := q
/-- behind it P holds -/
theorem y_cut (P : L2.St → Hp → Prop) (h : ∀ N, (∀ σ H, P σ H → N σ H) → t { D with nx := N } σ H) (k : ∀ σ H, P σ H → u D σ H) : tStop t u D σ H := h (u D) k
theorem x_stopE (q : tStopE (tIf c ta tb) σ H Q) : tIf c ta tb σ H Q := q
theorem y_goE {te : TE} (q : te σ H Q) : tStopE te σ H Q := q
theorem y_cutE {te : TE} (P : V → Hp → Prop) (h : ∀ N : VK, (∀ v H, P v H → N v H) → te σ H N) (k : ∀ v H, P v H → Q v H) : tStopE te σ H Q := h Q k
theorem x_stopA (q : tStopT (tAnd c c2) σ H QT) : tAnd c c2 σ H QT := q
theorem x_stopO (q : tStopT (tOr c c2) σ H QT) : tOr c c2 σ H QT := q
theorem y_goT {te : TT} (q : te σ H QT) : tStopT te σ H QT := q
theorem y_cutT {te : TT} (P : Bool → Hp → Prop) (h : ∀ N : Bool → Hp → Prop, (∀ v H, P v H → N v H) → te σ H N) (k : ∀ v H, P v H → QT v H) : tStopT te σ H QT := h QT k
end
end TR

set_option Elab.async false
set_option linter.all false
set_option maxRecDepth 100000
set_option maxHeartbeats 4000000
/-! .. -/

namespace TR
open PySem PySem.Spec PyProof.Rows L2
section
variable {P : Program} {w : World} {K : PySem.W.Frag} {mg : Str → Option Value} {base : Heap}
/-! ### orders -/
/-- things mixed, of numbers -/
def mixN (n : Int) (ns : List Int) : List Int := (mixd n (ns.map V.int)).2.map fun v => match v with
  | .int i => i
  | _ => 0
theorem mixN_eq (n : Int) (ns : List Int) : (mixd n (ns.map V.int)).2 = (mixN n ns).map V.int := by
  obtain ⟨js, h, _⟩ := perm_ints (mixd_perm n (ns.map V.int))
  unfold mixN
  rw [h, List.map_map, List.map_map]
  exact (List.map_congr_left fun _ _ => rfl).symm
theorem mixN_perm (n : Int) (ns : List Int) : (mixN n ns).Perm ns := by
  obtain ⟨js, h, hp⟩ := perm_ints (mixd_perm n (ns.map V.int))
  have e : mixN n ns = js := by
    unfold mixN
    rw [h, List.map_map]
    exact (List.map_congr_left fun _ _ => rfl).trans (List.map_id js)
  rw [e]
  exact hp
def mixSd (n : Int) (ns : List Int) : Int := (mixd n (ns.map V.int)).1
theorem mixSd_ok {n : Int} (h : okSeed n) (ns : List Int) : okSeed (mixSd n ns) := mixd_ok h _
structure OS where
  q : QS
  d : Int
  mx : Bool
  ag : Str
  deck : List Int
  gone : Bool
  beh : Option Int
structure OS.Ok (S : OS) : Prop where
  nd : S.q.turn.Nodup
  dnd : S.deck.Nodup
  pos : ∀ e ∈ S.q.turn, 1 ≤ e ∧ e ≤ (S.q.tunes.length : Nat)
  sub : ∀ e ∈ S.deck, e ∈ S.q.turn
  len : S.q.turn.length ≤ 12
  tl : S.q.tunes.length ≤ 1000
  seed : okSeed S.d
  bh : ∀ b, S.gone = true → S.beh = some b → b ∈ S.q.turn
theorem OS.Ok.fit {S : OS} (h : S.Ok) : S.q.Fit := ⟨by have := h.len; omega, by have := h.tl; omega⟩
theorem nodup_len : ∀ {xs ys : List Int}, xs.Nodup → (∀ e ∈ xs, e ∈ ys) → xs.length ≤ ys.length
  | [], _, _, _ => Nat.zero_le _
  | x :: r, ys, h, hs => by
    obtain ⟨h1, h2⟩ := List.nodup_cons.mp h
    have hx := hs x List.mem_cons_self
    have ih := nodup_len h2 (ys := ys.erase x) fun e he => (List.mem_erase_of_ne fun z => h1 (by rw [← z]; exact he)).mpr (hs e (List.mem_cons_of_mem _ he))
    rw [List.length_erase_of_mem hx] at ih
    have := List.length_pos_of_mem hx
    rw [List.length_cons]
    omega
theorem OS.Ok.dl {S : OS} (h : S.Ok) : S.deck.length ≤ 12 := Nat.le_trans (nodup_len h.dnd h.sub) h.len
def OrderR (K : PySem.W.Frag) (p : Addr) (S : OS) : As := ex fun dx => ex fun q => ex fun c => ex fun k =>
  all [pt p (.ins (He.ga K "Order") dx (nmOrder.zip [.ref q, .ref c, .bl S.mx, .str S.ag, .ref k, .bl S.gone, oV S.beh])), QueueR K q S.q, DiceR K c S.d, pt k (.lst (S.deck.map V.int))]
instance {K : PySem.W.Frag} {p : Addr} {S : OS} : Kys (OrderR K p S) p := ⟨trivial⟩
instance {K : PySem.W.Frag} {p : Addr} {S : OS} : IsOb (OrderR K p S) p (He.ga K "Order") nmOrder := ⟨fun h ⟨dx, q, c, k, a⟩ => ⟨dx, _, Sep.get a⟩⟩
theorem Sep.opO {p : Addr} {S : OS} {R : List As} {H : Hp} (h : Sep (OrderR K p S :: R) H) : ∃ dx q c k, Sep (pt p (.ins (He.ga K "Order") dx (nmOrder.zip [.ref q, .ref c, .bl S.mx, .str S.ag, .ref k, .bl S.gone, oV S.beh])) :: QueueR K q S.q :: DiceR K c S.d :: pt k (.lst (S.deck.map V.int)) :: R) H := by
  obtain ⟨dx, h⟩ := h.ex
  obtain ⟨q, h⟩ := h.ex
  obtain ⟨c, h⟩ := h.ex
  obtain ⟨k, h⟩ := h.ex
  exact ⟨dx, q, c, k, h.flat⟩
theorem Sep.clO {p dx q c k : Addr} {S : OS} {R : List As} {H : Hp} (h : Sep (pt p (.ins (He.ga K "Order") dx (nmOrder.zip [.ref q, .ref c, .bl S.mx, .str S.ag, .ref k, .bl S.gone, oV S.beh])) :: QueueR K q S.q :: DiceR K c S.d :: pt k (.lst (S.deck.map V.int)) :: R) H) : Sep (OrderR K p S :: R) H :=
  Sep.exi dx (Sep.exi q (Sep.exi c (Sep.exi k (Sep.wrap h))))
/-- closed, by the parts named -/
theorem Sep.clO' (S : OS) (dx q c k : Addr) {p : Addr} {R L : List As} {H : Hp} (h : Sep L H) (e : En L (pt p (.ins (He.ga K "Order") dx (nmOrder.zip [.ref q, .ref c, .bl S.mx, .str S.ag, .ref k, .bl S.gone, oV S.beh])) :: QueueR K q S.q :: DiceR K c S.d :: pt k (.lst (S.deck.map V.int)) :: R)) : Sep (OrderR K p S :: R) H := Sep.clO (h.of e)
def OS.new (s : Int) : OS := ⟨⟨[], []⟩, s, false, "none", [], false, none⟩
def sp_Order_init (K : PySem.W.Frag) : Sp := fun vs H Q E => ∃ (p dx : Addr) (s : Int) (R : List As), vs = [.ref p, .int s] ∧ Sep (pt p (.ins (He.ga K "Order") dx []) :: R) H ∧
  (okSeed s → ∀ H', Sep (OrderR K p (OS.new s) :: R) H' → Q .non H') ∧ (¬ okSeed s → ∀ H', Sep R H' → E (.ref (He.ga K "BadNumber")) none H')
theorem ln_Order_init : ∀ vs H Q E, sp_Order_init K vs H Q E → vs.length = (["self", "seed"] : List Str).length := by
  rintro _ _ _ _ ⟨p, dx, s, R, rfl, _⟩
  rfl
theorem sc_Order_init : FnScope ["self", "seed"] ["self", "seed"] (defScope s_Order_init) := ⟨rfl, rfl, rfl, by decide +kernel, rfl, by decide +kernel, by decide +kernel⟩
theorem ok_Order_init (T : Top K mg) : OkD P w K mg base d_Order_init 3 ["self", "seed"] (sp_Order_init K) := by
  refine okD (df_Order_init T) sc_Order_init (fun _ _ _ _ _ _ us hl => match us, hl with | [_, _], _ => rfl) ln_Order_init (fun cdv A outer s H vs Q E hr h => ⟨_,
      pss_cons (ps_fld (pv 0) (px_make0 (ok_Queue_init T) (hr.mono (by decide)) (mk_Queue T) rfl (gl_Queue T) (fun σ => paD σ)) rfl)
      (pss_cons (ps_fld (pv 0) (px_make (ok_Dice_init T) (hr.mono (by decide)) (mk_Dice T) rfl (gl_Dice T) (fun σ => paD σ) (pa_cons (pv 1) pa_nil)) rfl)
      (pss_cons (ps_fld (pv 0) pe_bl rfl)
      (pss_cons (ps_fld (pv 0) pe_str rfl)
      (pss_cons (ps_fld (pv 0) (pe_lst pa_nil) rfl)
      (pss_cons (ps_fld (pv 0) pe_bl rfl)
      (pss_one (ps_fld (pv 0) pe_non rfl))))))), ?_⟩)
  obtain ⟨p, dx, s, R, rfl, hS, h1, h2⟩ := h
  walk_at "go"
  refine y_mk hS fun q dx2 H hS => ?_
  refine ⟨q, dx2, _, rfl, hS.own q, fun H hS => ?_⟩
  walk_at "s"
  refine y_mk hS fun c dx3 H hS => ?_
  refine ⟨c, dx3, s, _, rfl, hS.own c, fun ok H hS => ?_, fun no H hS => ?_⟩
  · walk_at "s"
    exact h1 ok _ (Sep.clO' (OS.new s) dx q c u hS (by
      show En _ (pt p (.ins (He.ga K "Order") dx (nmOrder.zip [.ref q, .ref c, .bl false, .str "none", .ref u, .bl false, .non])) :: QueueR K q ⟨[], []⟩ :: DiceR K c s :: pt u (.lst []) :: R)
      repeat (first | exact En.refl | exact En.nil | refine En.cons ?_ | refine En.drop ?_)))
  · exact h2 no _ (hS.of (by repeat (first | exact En.refl | exact En.nil | refine En.cons ?_ | refine En.drop ?_)))
def okWord (w : Str) : Prop := w = "none" ∨ w = "all" ∨ w = "one"
instance (w : Str) : Decidable (okWord w) := by unfold okWord; infer_instance
theorem in_word (z : Str) : inV (.str z) [.str "none", .str "all", .str "one"] = decide (okWord z) := by
  unfold inV
  show ((("none" : Str) == z) || ((("all" : Str) == z) || ((("one" : Str) == z) || false))) = _
  by_cases h1 : z = "none"
  · subst h1; rfl
  by_cases h2 : z = "all"
  · subst h2; rfl
  by_cases h3 : z = "one"
  · subst h3; rfl
  have e : decide (okWord z) = false := decide_eq_false (by rintro (h | h | h) <;> contradiction)
  rw [e, beq_eq_false_iff_ne.mpr (Ne.symm h1), beq_eq_false_iff_ne.mpr (Ne.symm h2), beq_eq_false_iff_ne.mpr (Ne.symm h3)] <;> rfl
def sp_Order_set_again (K : PySem.W.Frag) : Sp := fun vs H Q E => ∃ (p : Addr) (z : Str) (S : OS) (R : List As), vs = [.ref p, .str z] ∧ Sep (OrderR K p S :: R) H ∧
  (okWord z → ∀ H', Sep (OrderR K p { S with ag := z } :: R) H' → Q .non H') ∧ (¬ okWord z → ∀ H', Sep (OrderR K p S :: R) H' → E (.ref (He.ga K "BadWord")) none H')
theorem ln_Order_set_again : ∀ vs H Q E, sp_Order_set_again K vs H Q E → vs.length = (["self", "word"] : List Str).length := by
  rintro _ _ _ _ ⟨p, z, S, R, rfl, _⟩
  rfl
theorem sc_Order_set_again : FnScope ["self", "word"] ["self", "word"] (defScope s_Order_set_again) := ⟨rfl, rfl, rfl, by decide +kernel, rfl, by decide +kernel, by decide +kernel⟩
theorem ok_Order_set_again (T : Top K mg) : OkD P w K mg base d_Order_set_again 1 ["self", "word"] (sp_Order_set_again K) := by
  refine okD (df_Order_set_again T) sc_Order_set_again (fun _ _ _ _ _ _ us hl => match us, hl with | [_, _], _ => rfl) ln_Order_set_again (fun cdv A outer s H vs Q E hr h => ⟨_,
      pss_cons (ps_if (pt_cmpR op_notIn_seq (pv 1) (px_ref rfl (gl_REPEATS T)) (by rfl))
       (pss_one (px_raise rfl tkD rfl (gl_BadWord T) (xc_BadWord T)))
       (pss_nil))
      (pss_one (ps_fld (pv 0) (pv 1) rfl)), ?_⟩)
  obtain ⟨p, z, S, R, rfl, hS, h1, h2⟩ := h
  obtain ⟨dx, q, c, k, hS⟩ := hS.opO
  walk_at "go"
  refine ⟨_, [.str "none", .str "all", .str "one"], rfl, .inr (tu_REPEATS T _), rfl, rfl, ?_⟩
  rw [in_word]
  walk_at "s"
  refine x_ndec (fun hn => ?_) (fun hy => ?_)
  · walk_at "s"
    exact h2 hn _ hS.clO
  · walk_at "s"
    exact h1 hy _ (Sep.clO' ({ S with ag := z }) dx q c k hS (by (try simp only [List.map_nil]); repeat (first | exact En.refl | exact En.nil | refine En.cons ?_ | refine En.drop ?_)))
/-- mixed or not -/
def OS.rest (S : OS) (e : Option Int) : List Int := S.q.turn.filter fun o => !decide (some o = e)
def OS.setMixed (S : OS) (b : Bool) (e : Option Int) : OS := match b, S.mx with
  | true, false => ⟨S.q, mixSd S.d (S.rest e), true, S.ag, mixN S.d (S.rest e), S.gone, S.beh⟩
  | true, true => S
  | false, _ => ⟨S.q, S.d, false, S.ag, [], S.gone, S.beh⟩
theorem OS.mx_eq {S : OS} {b : Bool} (h : S.mx = b) : S = ⟨S.q, S.d, b, S.ag, S.deck, S.gone, S.beh⟩ := by
  cases S
  cases h
  rfl
theorem rest_len {S : OS} (h : S.Ok) (e : Option Int) : (S.rest e).length ≤ 12 := Nat.le_trans (List.length_filter_le _ _) h.len
def sp_Order_set_mixed (K : PySem.W.Frag) : Sp := fun vs H Q E => ∃ (p : Addr) (b : Bool) (e : Option Int) (S : OS) (R : List As), vs = [.ref p, .bl b, oV e] ∧ S.Ok ∧ Sep (OrderR K p S :: R) H ∧
  (∀ H', Sep (OrderR K p (S.setMixed b e) :: R) H' → Q .non H')
theorem ln_Order_set_mixed : ∀ vs H Q E, sp_Order_set_mixed K vs H Q E → vs.length = (["self", "is_mixed", "entry"] : List Str).length := by
  rintro _ _ _ _ ⟨p, b, e, S, R, rfl, _⟩
  rfl
theorem sc_Order_set_mixed : FnScope ["self", "is_mixed", "entry", "one"] ["self", "is_mixed", "entry"] (defScope s_Order_set_mixed) := ⟨rfl, rfl, rfl, by decide +kernel, rfl, by decide +kernel, by decide +kernel⟩
theorem ok_Order_set_mixed (T : Top K mg) : OkD P w K mg base d_Order_set_mixed 3 ["self", "is_mixed", "entry"] (sp_Order_set_mixed K) := by
  refine okD (df_Order_set_mixed T) sc_Order_set_mixed (fun _ _ _ _ _ _ us hl => match us, hl with | [_, _, _], _ => rfl) ln_Order_set_mixed (fun cdv A outer s H vs Q E hr h => ⟨_,
      pss_cons (ps_if (PW.pt (pw_and (px_truth (pv 1) (by intro _; rfl)) (pw_and1 (pt_not (px_truth (pe_fld (pv 0) rfl) (by intro _; rfl))))))
       (pss_one (ps_fld (pv 0) (px_call (ok_mixed T) (hr.mono (by decide)) rfl (gl_mixed T) (fun σ => paD σ) (pa_cons (pe_fld (pv 0) rfl) (pa_cons (pe_lc (own := [("one", 3)]) (g := gName 3) (by rfl) sc_Order_set_mixed.nd (pi_list (px_meth0 (ok_Queue_entries T) (hr.mono (by decide)) (pe_fld (pv 0) rfl) (cl_Queue T) (me_Queue_entries T) (fun σ => paD σ))) (blkOk_by (own := [("one", 3)]) (N := ["self", "is_mixed", "entry", "one"]) (sc := defScope s_Order_set_mixed) (by decide +kernel)) (fun _ _ _ _ _ => pg_name (i := 3) sc_Order_set_mixed.nd rfl (Or.inl rfl)) (fun _ _ _ _ _ => pts_one (pt_cmpR op_ne (pv 3) (pv 2) (nomark _))) (fun _ _ _ _ _ => pv 3)) pa_nil))) rfl))
       (pss_nil))
      (pss_cons (ps_if (pt_not (px_truth (pv 1) (by intro _; rfl)))
       (pss_one (ps_fld (pv 0) (pe_lst pa_nil) rfl))
       (pss_nil))
      (pss_one (ps_fld (pv 0) (pv 1) rfl))), ?_⟩)
  obtain ⟨p, b, e, S, R, rfl, ho, hS, h1⟩ := h
  obtain ⟨dx, q, c, k, hS⟩ := hS.opO
  have hl := ho.len
  walk_at "go"
  cases b with
  | true =>
    walk_at "s"
    cases hm : S.mx with
    | false =>
      have e1 : S.setMixed true e = ⟨S.q, mixSd S.d (S.rest e), true, S.ag, mixN S.d (S.rest e), S.gone, S.beh⟩ := by unfold OS.setMixed; rw [hm]
      rw [e1] at h1
      rw [hm] at hS
      walk_at "s"
      refine ⟨q, S.q, _, rfl, hS.own q, fun l H hS => ?_⟩
      walk_at "s"
      refine y_lcF (fun o => !decide (some o = e)) hS (by omega) (fun D acc x H hl hS => ?_) (fun l2 H hS => ?_)
      · walk_at "s"
        refine x_neJ ?_
        walk_at "s"
        refine x_ndec (fun hn => ?_) (fun hy => ?_)
        · walk_at "s"
          refine y_el hS (by rw [List.length_map]; omega) fun H hS => ?_
          rw [if_pos (by rw [decide_eq_false hn] <;> rfl), List.map_append]
          exact hS
        · rw [if_neg (by rw [decide_eq_true hy]; intro z; cases z)]
          exact hS
      · replace hS : Sep (pt l2 (.lst ((S.rest e).map V.int)) :: _) H := hS
        have hr := rest_len ho e
        walk_at "s"
        refine ⟨c, l2, S.d, (S.rest e).map V.int, _, rfl, ho.seed, by rw [List.length_map]; omega, hS.own2 c l2, fun l3 H hS => ?_⟩
        rw [mixN_eq] at hS
        replace hS : Sep (pt l3 (.lst ((mixN S.d (S.rest e)).map V.int)) :: DiceR K c (mixSd S.d (S.rest e)) :: _) H := hS
        walk_at "s"
        exact h1 _ (Sep.clO' (⟨S.q, mixSd S.d (S.rest e), true, S.ag, mixN S.d (S.rest e), S.gone, S.beh⟩) dx q c l3 hS (by (try simp only [List.map_nil]); repeat (first | exact En.refl | exact En.nil | refine En.cons ?_ | refine En.drop ?_)))
    | true =>
      have e1 : S.setMixed true e = ⟨S.q, S.d, true, S.ag, S.deck, S.gone, S.beh⟩ := by
        unfold OS.setMixed
        rw [hm]
        exact S.mx_eq hm
      rw [e1] at h1
      rw [hm] at hS
      walk_at "s"
      exact h1 _ (Sep.clO' (⟨S.q, S.d, true, S.ag, S.deck, S.gone, S.beh⟩) dx q c k hS (by (try simp only [List.map_nil]); repeat (first | exact En.refl | exact En.nil | refine En.cons ?_ | refine En.drop ?_)))
  | false =>
    walk_at "s"
    rename Addr => k2
    exact h1 _ (Sep.clO' (⟨S.q, S.d, false, S.ag, [], S.gone, S.beh⟩) dx q c k2 hS (by (try simp only [List.map_nil]); repeat (first | exact En.refl | exact En.nil | refine En.cons ?_ | refine En.drop ?_)))

end
end TR

set_option Elab.async false
set_option linter.all false
set_option maxRecDepth 100000
set_option maxHeartbeats 4000000
/-! .. -/

namespace TR
open PySem PySem.Spec PyProof.Rows L2
section
variable {P : Program} {w : World} {K : PySem.W.Frag} {mg : Str → Option Value} {base : Heap}
/-- an entry comes -/
def OS.put (S : OS) (z : Str) (pl : Nat) : OS := match S.mx with
  | true => ⟨S.q.put z pl, dnext S.d, true, S.ag, insAt S.deck (dval S.d ((S.deck.length : Nat) + 1)).toNat ((S.q.tunes.length : Nat) + 1), S.gone, S.beh⟩
  | false => ⟨S.q.put z pl, S.d, false, S.ag, S.deck, S.gone, S.beh⟩
def sp_Order_put (K : PySem.W.Frag) : Sp := fun vs H Q E => ∃ (p : Addr) (z : Str) (pl : Int) (S : OS) (R : List As), vs = [.ref p, .str z, .int pl] ∧ S.Ok ∧ Sep (OrderR K p S :: R) H ∧
  (okPut S.q pl → ∀ H', Sep (OrderR K p (S.put z pl.toNat) :: R) H' → Q (.int ((S.q.tunes.length : Nat) + 1)) H') ∧ (¬ okPut S.q pl → ∀ H', Sep (OrderR K p S :: R) H' → E (.ref (He.ga K "BadNumber")) none H')
theorem ln_Order_put : ∀ vs H Q E, sp_Order_put K vs H Q E → vs.length = (["self", "name", "place"] : List Str).length := by
  rintro _ _ _ _ ⟨p, z, pl, S, R, rfl, _⟩
  rfl
theorem sc_Order_put : FnScope ["self", "name", "place", "found"] ["self", "name", "place"] (defScope s_Order_put) := ⟨rfl, rfl, rfl, by decide +kernel, rfl, by decide +kernel, by decide +kernel⟩
theorem ok_Order_put (T : Top K mg) : OkD P w K mg base d_Order_put 2 ["self", "name", "place"] (sp_Order_put K) := by
  refine okD (df_Order_put T) sc_Order_put (fun _ _ _ _ _ _ us hl => match us, hl with | [_, _, _], _ => rfl) ln_Order_put (fun cdv A outer s H vs Q E hr h => ⟨_,
      pss_cons (ps_set (i := 3) sc_Order_put.nd rfl (Or.inl rfl) (px_meth (ok_Queue_put T) (hr.mono (by decide)) (pe_fld (pv 0) rfl) (cl_Queue T) (me_Queue_put T) (fun σ => paD σ) (pa_cons (pv 1) (pa_cons (pv 2) pa_nil))))
      (pss_cons (ps_if (px_truth (pe_fld (pv 0) rfl) (by intro _; rfl))
       (pss_one (ps_expr (pe_bm PySem.F.plainAttrs_list PySem.F.slot_list_insert PySem.F.type_list_insert mt_ins (pe_fld (pv 0) rfl) (pa_cons (px_meth (ok_Dice_below T) (hr.mono (by decide)) (pe_fld (pv 0) rfl) (cl_Dice T) (me_Dice_below T) (fun σ => paD σ) (pa_cons (pe_op op_addA (pe_callB call_lenA (by rfl) (fr_len T) (by decide +kernel) (pa_cons (pe_fld (pv 0) rfl) pa_nil)) pe_int) pa_nil)) (pa_cons (pv 3) pa_nil)))))
       (pss_nil))
      (pss_one (ps_ret (pv 3)))), ?_⟩)
  obtain ⟨p, z, pl, S, R, rfl, ho, hS, h1, h2⟩ := h
  obtain ⟨dx, q, c, k, hS⟩ := hS.opO
  have hd := ho.dl
  have ed : (S.deck.map V.int).length = S.deck.length := List.length_map _
  walk_at "go"
  refine ⟨q, z, pl, S.q, _, rfl, ho.fit, hS.own q, fun ok H hS => ?_, fun no H hS => h2 no _ (Sep.clO' (S) dx q c k hS (by (try simp only [List.map_nil]); repeat (first | exact En.refl | exact En.nil | refine En.cons ?_ | refine En.drop ?_)))⟩
  walk_at "s"
  cases hm : S.mx with
  | true =>
    have e1 : S.put z pl.toNat = ⟨S.q.put z pl.toNat, dnext S.d, true, S.ag, insAt S.deck (dval S.d ((S.deck.length : Nat) + 1)).toNat ((S.q.tunes.length : Nat) + 1), S.gone, S.beh⟩ := by unfold OS.put; rw [hm]
    rw [e1] at h1
    rw [hm] at hS
    walk_at "s"
    refine y_bml (sqL hS) ?_
    walk_at "s"
    refine x_lenL (sqL hS) ?_
    walk_at "s"
    rw [ed]
    refine ⟨c, S.d, _, _, rfl, ho.seed, hS.own c, fun _ H hS => ?_, fun no => absurd (show okMany _ from ⟨by omega, by omega⟩) no⟩
    have dv := dval_ok S.d (m := (S.deck.length : Nat) + 1) (by omega)
    walk_at "s"
    refine x_insI hS (by omega) ⟨by omega, by omega⟩ fun H hS => ?_
    replace hS : Sep (pt k (.lst ((insAt S.deck (dval S.d ((S.deck.length : Nat) + 1)).toNat ((S.q.tunes.length : Nat) + 1)).map V.int)) :: _) H := hS
    walk_at "s"
    exact h1 ok _ (Sep.clO' (⟨S.q.put z pl.toNat, dnext S.d, true, S.ag, insAt S.deck (dval S.d ((S.deck.length : Nat) + 1)).toNat ((S.q.tunes.length : Nat) + 1), S.gone, S.beh⟩) dx q c k hS (by (try simp only [List.map_nil]); repeat (first | exact En.refl | exact En.nil | refine En.cons ?_ | refine En.drop ?_)))
  | false =>
    have e1 : S.put z pl.toNat = ⟨S.q.put z pl.toNat, S.d, false, S.ag, S.deck, S.gone, S.beh⟩ := by unfold OS.put; rw [hm]
    rw [e1] at h1
    rw [hm] at hS
    walk_at "s"
    exact h1 ok _ (Sep.clO' (⟨S.q.put z pl.toNat, S.d, false, S.ag, S.deck, S.gone, S.beh⟩) dx q c k hS (by (try simp only [List.map_nil]); repeat (first | exact En.refl | exact En.nil | refine En.cons ?_ | refine En.drop ?_)))
/-- an entry begins -/
def wo (e : Int) (ns : List Int) : List Int := ns.filter fun o => !decide (some o = some e)
theorem wo_not {e : Int} {ns : List Int} (h : e ∉ ns) : wo e ns = ns := List.filter_eq_self.mpr fun a ha => by
  have : a ≠ e := fun z => h (z ▸ ha)
  simp [this]
theorem wo_rem {e : Int} : ∀ {ns : List Int}, ns.Nodup → e ∈ ns → ns.eraseIdx (ns.idxOf e) = wo e ns
  | x :: r, hd, he => by
    obtain ⟨h1, h2⟩ := List.nodup_cons.mp hd
    by_cases hx : x = e
    · subst hx
      rw [List.idxOf_cons_self]
      show r = wo x (x :: r)
      have e1 : wo x (x :: r) = wo x r := by unfold wo; simp
      rw [e1, wo_not h1]
    · have he' : e ∈ r := (List.mem_cons.mp he).resolve_left (Ne.symm hx)
      have e1 : wo e (x :: r) = x :: wo e r := by unfold wo; simp [hx]
      have e2 : (x :: r).idxOf e = r.idxOf e + 1 := by
        rw [List.idxOf_cons, beq_eq_false_iff_ne.mpr hx] <;> rfl
      rw [e1, ← wo_rem h2 he', e2]
      rfl
def OS.began (S : OS) (e : Int) : OS := ⟨S.q, S.d, S.mx, S.ag, wo e S.deck, if e ∈ S.q.turn then false else S.gone, S.beh⟩
def sp_Order_began (K : PySem.W.Frag) : Sp := fun vs H Q E => ∃ (p : Addr) (e : Int) (S : OS) (R : List As), vs = [.ref p, .int e] ∧ S.Ok ∧ Sep (OrderR K p S :: R) H ∧ (∀ H', Sep (OrderR K p (S.began e) :: R) H' → Q .non H')
theorem ln_Order_began : ∀ vs H Q E, sp_Order_began K vs H Q E → vs.length = (["self", "entry"] : List Str).length := by
  rintro _ _ _ _ ⟨p, e, S, R, rfl, _⟩
  rfl
theorem sc_Order_began : FnScope ["self", "entry"] ["self", "entry"] (defScope s_Order_began) := ⟨rfl, rfl, rfl, by decide +kernel, rfl, by decide +kernel, by decide +kernel⟩
theorem ok_Order_began (T : Top K mg) : OkD P w K mg base d_Order_began 2 ["self", "entry"] (sp_Order_began K) := by
  refine okD (df_Order_began T) sc_Order_began (fun _ _ _ _ _ _ us hl => match us, hl with | [_, _], _ => rfl) ln_Order_began (fun cdv A outer s H vs Q E hr h => ⟨_,
      pss_cons (ps_if (pt_cmpR op_in_seq (pv 1) (px_meth0 (ok_Queue_entries T) (hr.mono (by decide)) (pe_fld (pv 0) rfl) (cl_Queue T) (me_Queue_entries T) (fun σ => paD σ)) (by rfl))
       (pss_one (ps_fld (pv 0) pe_bl rfl))
       (pss_nil))
      (pss_one (ps_if (pt_cmpR op_in_seq (pv 1) (pe_fld (pv 0) rfl) (by rfl))
       (pss_one (ps_expr (pe_bm PySem.F.plainAttrs_list PySem.F.slot_list_remove PySem.F.type_list_remove mt_remove (pe_fld (pv 0) rfl) (pa_cons (pv 1) pa_nil))))
       (pss_nil))), ?_⟩)
  obtain ⟨p, e, S, R, rfl, ho, hS, h1⟩ := h
  obtain ⟨dx, q, c, k, hS⟩ := hS.opO
  walk_at "go"
  refine ⟨q, S.q, _, rfl, hS.own q, fun l H hS => ?_⟩
  walk_at "s"
  refine x_inI (sqL hS) ?_
  walk_at "s"
  unfold OS.began at h1
  refine x_dec (fun he => ?_) (fun he => ?_)
  · rw [if_pos he] at h1
    walk_at "s"
    refine x_inI (sqL hS) ?_
    walk_at "s"
    refine x_dec (fun hd => ?_) (fun hd => ?_)
    · walk_at "s"
      refine y_bml (sqL hS) ?_
      walk_at "s"
      refine x_remI hS hd fun H hS => ?_
      rw [wo_rem ho.dnd hd] at hS
      walk_at "s"
      exact h1 _ (Sep.clO' (⟨S.q, S.d, S.mx, S.ag, wo e S.deck, false, S.beh⟩) dx q c k hS (by (try simp only [List.map_nil]); repeat (first | exact En.refl | exact En.nil | refine En.cons ?_ | refine En.drop ?_)))
    · rw [wo_not hd] at h1
      walk_at "s"
      exact h1 _ (Sep.clO' (⟨S.q, S.d, S.mx, S.ag, S.deck, false, S.beh⟩) dx q c k hS (by (try simp only [List.map_nil]); repeat (first | exact En.refl | exact En.nil | refine En.cons ?_ | refine En.drop ?_)))
  · rw [if_neg he] at h1
    walk_at "s"
    refine x_inI (sqL hS) ?_
    walk_at "s"
    refine x_dec (fun hd => ?_) (fun hd => ?_)
    · walk_at "s"
      refine y_bml (sqL hS) ?_
      walk_at "s"
      refine x_remI hS hd fun H hS => ?_
      rw [wo_rem ho.dnd hd] at hS
      walk_at "s"
      exact h1 _ (Sep.clO' (⟨S.q, S.d, S.mx, S.ag, wo e S.deck, S.gone, S.beh⟩) dx q c k hS (by (try simp only [List.map_nil]); repeat (first | exact En.refl | exact En.nil | refine En.cons ?_ | refine En.drop ?_)))
    · rw [wo_not hd] at h1
      walk_at "s"
      exact h1 _ (Sep.clO' (⟨S.q, S.d, S.mx, S.ag, S.deck, S.gone, S.beh⟩) dx q c k hS (by (try simp only [List.map_nil]); repeat (first | exact En.refl | exact En.nil | refine En.cons ?_ | refine En.drop ?_)))
/-- the front of what is left of a round -/
def OS.pop (S : OS) : OS × Option Int := match S.deck with
  | [] => (S, none)
  | x :: r => (⟨S.q, S.d, S.mx, S.ag, r, S.gone, S.beh⟩, some x)
/-- a round anew -/
def OS.deal (S : OS) (f : List Int → List Int) : OS := ⟨S.q, mixSd S.d S.q.turn, S.mx, S.ag, f (mixN S.d S.q.turn), S.gone, S.beh⟩
def OS.first (S : OS) : OS × Option Int := match S.mx with
  | false => (S, S.q.turn[0]?)
  | true => (if S.deck = [] then S.deal id else S).pop
def sp_Order_first (K : PySem.W.Frag) : Sp := fun vs H Q E => ∃ (p : Addr) (S : OS) (R : List As), vs = [.ref p] ∧ S.Ok ∧ Sep (OrderR K p S :: R) H ∧ (∀ H', Sep (OrderR K p S.first.1 :: R) H' → Q (oV S.first.2) H')
theorem ln_Order_first : ∀ vs H Q E, sp_Order_first K vs H Q E → vs.length = (["self"] : List Str).length := by
  rintro _ _ _ _ ⟨p, S, R, rfl, _⟩
  rfl
end
end TR

set_option Elab.async false
set_option linter.all false
set_option maxRecDepth 100000
set_option maxHeartbeats 4000000
/-! .. -/

namespace TR
open PySem PySem.Spec PyProof.Rows L2
section
variable {P : Program} {w : World} {K : PySem.W.Frag} {mg : Str → Option Value} {base : Heap}
/-- the last one to the front, the first one to the end -/
def rot (xs : List Int) : List Int := (xs.drop (xs.length - 1)) ++ ((xs.drop 1).take (xs.length - 1 - 1)) ++ xs.take 1
/-- the next round's turn: none twice in a row -/
def turnD (e : Option Int) (xs : List Int) : List Int := if 1 < xs.length ∧ xs[0]? = e then rot xs else xs
def OS.nextM (S : OS) (e : Option Int) : OS × Option Int := (if S.deck = [] ∧ S.ag = "all" then S.deal (turnD e) else S).pop
theorem OS.dk_eq {S : OS} {xs : List Int} (h : S.deck = xs) : S = ⟨S.q, S.d, S.mx, S.ag, xs, S.gone, S.beh⟩ := by
  cases S
  cases h
  rfl
theorem cut_from (ns : List Int) (n : Nat) : cutV (ns.map V.int) (some (n : Int)) none = (ns.drop n).map V.int := by
  unfold cutV
  rw [HT.sIx_nat, HT.sIx_none, List.length_map, List.map_drop, List.take_of_length_le (by rw [List.length_drop, List.length_map]; omega)]
  by_cases h : n ≤ ns.length
  · rw [Nat.min_eq_left h]
  · rw [Nat.min_eq_right (by omega), List.drop_of_length_le (by rw [List.length_map]; omega), List.drop_of_length_le (by rw [List.length_map]; omega)]
theorem cut_last {ns : List Int} (h : 1 < ns.length) : cutV (ns.map V.int) (some (-1)) none = (ns.drop (ns.length - 1)).map V.int := by
  have e : HT.sIx (ns.map V.int).length 0 (some (-1)) = ns.length - 1 := by
    show (if (-1 : Int) < 0 then ((-1 : Int) + ((ns.map V.int).length : Int)).toNat else min (-1 : Int).toNat (ns.map V.int).length) = _
    rw [if_pos (by decide), List.length_map]
    omega
  unfold cutV
  rw [e, HT.sIx_none, List.length_map, List.map_drop, List.take_of_length_le (by rw [List.length_drop, List.length_map]; omega)]
theorem cut_mid {ns : List Int} (h : 1 < ns.length) : cutV (ns.map V.int) (some 1) (some (-1)) = ((ns.drop 1).take (ns.length - 1 - 1)).map V.int := by
  have e : HT.sIx (ns.map V.int).length (ns.map V.int).length (some (-1)) = ns.length - 1 := by
    show (if (-1 : Int) < 0 then ((-1 : Int) + ((ns.map V.int).length : Int)).toNat else min (-1 : Int).toNat (ns.map V.int).length) = _
    rw [if_pos (by decide), List.length_map]
    omega
  have e2 : HT.sIx (ns.map V.int).length 0 (some 1) = 1 := by
    show (if (1 : Int) < 0 then ((1 : Int) + ((ns.map V.int).length : Int)).toNat else min (1 : Int).toNat (ns.map V.int).length) = _
    rw [if_neg (by decide), List.length_map, show (1 : Int).toNat = 1 from rfl]
    omega
  unfold cutV
  rw [e, e2, List.map_take, List.map_drop]
theorem cut_head {ns : List Int} (h : 1 < ns.length) : cutV (ns.map V.int) none (some 1) = (ns.take 1).map V.int := by
  have e2 : HT.sIx (ns.map V.int).length (ns.map V.int).length (some 1) = 1 := by
    show (if (1 : Int) < 0 then ((1 : Int) + ((ns.map V.int).length : Int)).toNat else min (1 : Int).toNat (ns.map V.int).length) = _
    rw [if_neg (by decide), List.length_map, show (1 : Int).toNat = 1 from rfl]
    omega
  unfold cutV
  rw [e2, HT.sIx_none, List.drop_zero, List.map_take]
def sp_Order_next_mixed (K : PySem.W.Frag) : Sp := fun vs H Q E => ∃ (p : Addr) (e : Option Int) (S : OS) (R : List As), vs = [.ref p, oV e] ∧ S.Ok ∧ Sep (OrderR K p S :: R) H ∧ (∀ H', Sep (OrderR K p (S.nextM e).1 :: R) H' → Q (oV (S.nextM e).2) H')
theorem ln_Order_next_mixed : ∀ vs H Q E, sp_Order_next_mixed K vs H Q E → vs.length = (["self", "entry"] : List Str).length := by
  rintro _ _ _ _ ⟨p, e, S, R, rfl, _⟩
  rfl
theorem sc_Order_next_mixed : FnScope ["self", "entry"] ["self", "entry"] (defScope s_Order_next_mixed) := ⟨rfl, rfl, rfl, by decide +kernel, rfl, by decide +kernel, by decide +kernel⟩
theorem ok_Order_next_mixed (T : Top K mg) : OkD P w K mg base d_Order_next_mixed 3 ["self", "entry"] (sp_Order_next_mixed K) := by
  refine okD (df_Order_next_mixed T) sc_Order_next_mixed (fun _ _ _ _ _ _ us hl => match us, hl with | [_, _], _ => rfl) ln_Order_next_mixed (fun cdv A outer s H vs Q E hr h => ⟨_,
      pss_cons (ps_if (PW.pt (pw_and (pt_not (px_truth (pe_fld (pv 0) rfl) (by intro _; rfl))) (pw_and1 (pt_cmpR (op_eqA hr.units) (pe_fld (pv 0) rfl) pe_str (nomark _)))))
       (pss_cons (ps_fld (pv 0) (px_call (ok_mixed T) (hr.mono (by decide)) rfl (gl_mixed T) (fun σ => paD σ) (pa_cons (pe_fld (pv 0) rfl) (pa_cons (px_meth0 (ok_Queue_entries T) (hr.mono (by decide)) (pe_fld (pv 0) rfl) (cl_Queue T) (me_Queue_entries T) (fun σ => paD σ)) pa_nil))) rfl)
        (pss_one (ps_if (PW.pt (pw_and (pt_cmpR op_gt (pe_callB call_lenA (by rfl) (fr_len T) (by decide +kernel) (pa_cons (pe_fld (pv 0) rfl) pa_nil)) pe_int (nomark _)) (pw_and1 (pt_cmpR (op_eqA hr.units) (pe_ix ix_seq (pe_fld (pv 0) rfl) pe_int (fun _ _ => rfl)) (pv 1) (nomark _)))))
         (pss_one (ps_fld (pv 0) (pe_op op_addA (pe_op op_addA (pe_slice sl_list (pe_fld (pv 0) rfl) (po_some (pe_un un_neg pe_int)) po_none) (pe_slice sl_list (pe_fld (pv 0) rfl) (po_some pe_int) (po_some (pe_un un_neg pe_int)))) (pe_slice sl_list (pe_fld (pv 0) rfl) po_none (po_some pe_int))) rfl))
         (pss_nil))))
       (pss_nil))
      (pss_one (ps_ret (pe_ifExp (px_truth (pe_fld (pv 0) rfl) (by intro _; rfl)) (pe_bm PySem.F.plainAttrs_list PySem.F.slot_list_pop PySem.F.type_list_pop mt_popAt (pe_fld (pv 0) rfl) (pa_cons pe_int pa_nil)) pe_non))), ?_⟩)
  obtain ⟨p, e, S, R, rfl, ho, hS, h1⟩ := h
  obtain ⟨dx, q, c, k, hS⟩ := hS.opO
  have hl := ho.len
  walk_at "go"
  unfold OS.nextM at h1
  refine y_trul (sqL hS) ?_
  cases hd : S.deck with
  | cons x r =>
    rw [hd] at hS
    rw [if_neg (by rw [hd]; rintro ⟨z, _⟩; cases z)] at h1
    unfold OS.pop at h1
    rw [hd] at h1
    walk_at "s"
    refine x_no rfl ?_
    walk_at "s"
    refine y_trul (sqL hS) ?_
    walk_at "s"
    refine x_yes rfl ?_
    walk_at "s"
    refine y_bml (sqL hS) ?_
    walk_at "s"
    refine x_pop0 hS fun H hS => ?_
    walk_at "s"
    exact h1 _ (Sep.clO' (⟨S.q, S.d, S.mx, S.ag, r, S.gone, S.beh⟩) dx q c k hS (by (try simp only [List.map_nil]); repeat (first | exact En.refl | exact En.nil | refine En.cons ?_ | refine En.drop ?_)))
  | nil =>
    rw [hd] at hS
    walk_at "s"
    refine x_yes rfl ?_
    walk_at "s"
    refine x_eqS rfl ?_
    walk_at "s"
    refine x_dec (fun ha => ?_) (fun ha => ?_)
    · have ha' : S.ag = "all" := by injection ha
      rw [if_pos ⟨hd, ha'⟩] at h1
      walk_at "s"
      refine ⟨q, S.q, _, rfl, hS.own q, fun l H hS => ?_⟩
      walk_at "s"
      refine ⟨c, l, S.d, S.q.turn.map V.int, _, rfl, ho.seed, by rw [List.length_map]; omega, hS.own2 c l, fun l3 H hS => ?_⟩
      rw [mixN_eq] at hS
      replace hS : Sep (pt l3 (.lst ((mixN S.d S.q.turn).map V.int)) :: DiceR K c (mixSd S.d S.q.turn) :: _) H := hS
      unfold OS.pop OS.deal at h1
      dsimp only at h1
      obtain ⟨xs, hx⟩ : ∃ xs, xs = mixN S.d S.q.turn := ⟨_, rfl⟩
      rw [← hx] at h1 hS
      have hxl : xs.length ≤ 12 := by rw [hx, (mixN_perm S.d S.q.turn).length_eq]; exact hl
      have exl : (xs.map V.int).length = xs.length := List.length_map _
      walk_at "s"
      refine x_lenL (sqL hS) ?_
      walk_at "s"
      rw [exl]
      refine x_dec (fun h2 => ?_) (fun h2 => ?_)
      · have h2' : 1 < xs.length := by omega
        obtain ⟨x0, hx0⟩ : ∃ x0, xs[0]? = some x0 := ⟨_, List.getElem?_eq_getElem (by omega)⟩
        walk_at "s"
        refine x_ixL (sqL hS) (atI_nat (j := 0) (v := .int x0) (by rw [List.getElem?_map, hx0] <;> rfl)) ?_
        walk_at "s"
        refine x_eqI1 ?_
        walk_at "s"
        refine x_dec (fun h3 => ?_) (fun h3 => ?_)
        · have et : turnD e xs = rot xs := if_pos ⟨h2', hx0.trans h3⟩
          rw [et] at h1
          walk_at "s"
          refine x_slL hS (sqL hS) fun l4 H hS => ?_
          rw [cut_last h2'] at hS
          walk_at "s"
          refine x_slL hS (sqL hS) fun l5 H hS => ?_
          rw [cut_mid h2'] at hS
          walk_at "s"
          refine x_cat hS (by simp only [List.length_map, List.length_drop, List.length_take, List.length_append]; exact sz' (by omega)) fun l6 H hS => ?_
          walk_at "s"
          refine x_slL hS (sqL hS) fun l7 H hS => ?_
          rw [cut_head h2'] at hS
          walk_at "s"
          refine x_cat hS (by simp only [List.length_map, List.length_drop, List.length_take, List.length_append]; exact sz' (by omega)) fun l8 H hS => ?_
          rw [← List.map_append, ← List.map_append] at hS
          obtain ⟨ys, hys⟩ : ∃ ys, ys = rot xs := ⟨_, rfl⟩
          replace hS : Sep (pt l8 (.lst ((rot xs).map V.int)) :: _) H := hS
          rw [← hys] at h1 hS
          walk_at "s"
          refine y_trul (sqL hS) ?_
          cases hy : ys with
          | nil =>
            rw [hy] at h1 hS
            walk_at "s"
            exact h1 _ (Sep.clO' (⟨S.q, mixSd S.d S.q.turn, S.mx, S.ag, [], S.gone, S.beh⟩) dx q c l8 hS (by (try simp only [List.map_nil]); repeat (first | exact En.refl | exact En.nil | refine En.cons ?_ | refine En.drop ?_)))
          | cons y r =>
            rw [hy] at h1 hS
            walk_at "s"
            refine x_yes rfl ?_
            walk_at "s"
            refine y_bml (sqL hS) ?_
            walk_at "s"
            refine x_pop0 hS fun H hS => ?_
            walk_at "s"
            exact h1 _ (Sep.clO' (⟨S.q, mixSd S.d S.q.turn, S.mx, S.ag, r, S.gone, S.beh⟩) dx q c l8 hS (by (try simp only [List.map_nil]); repeat (first | exact En.refl | exact En.nil | refine En.cons ?_ | refine En.drop ?_)))
        · have et : turnD e xs = xs := if_neg fun z => h3 (hx0.symm.trans z.2)
          rw [et] at h1
          clear hx
          obtain ⟨ys, hys⟩ : ∃ ys, ys = xs := ⟨_, rfl⟩
          rw [← hys] at h1 hS
          walk_at "s"
          refine y_trul (sqL hS) ?_
          cases hy : ys with
          | nil =>
            rw [hy] at h1 hS
            walk_at "s"
            exact h1 _ (Sep.clO' (⟨S.q, mixSd S.d S.q.turn, S.mx, S.ag, [], S.gone, S.beh⟩) dx q c l3 hS (by (try simp only [List.map_nil]); repeat (first | exact En.refl | exact En.nil | refine En.cons ?_ | refine En.drop ?_)))
          | cons y r =>
            rw [hy] at h1 hS
            walk_at "s"
            refine x_yes rfl ?_
            walk_at "s"
            refine y_bml (sqL hS) ?_
            walk_at "s"
            refine x_pop0 hS fun H hS => ?_
            walk_at "s"
            exact h1 _ (Sep.clO' (⟨S.q, mixSd S.d S.q.turn, S.mx, S.ag, r, S.gone, S.beh⟩) dx q c l3 hS (by (try simp only [List.map_nil]); repeat (first | exact En.refl | exact En.nil | refine En.cons ?_ | refine En.drop ?_)))
      · have et : turnD e xs = xs := if_neg fun z => h2 (by omega)
        rw [et] at h1
        clear hx
        obtain ⟨ys, hys⟩ : ∃ ys, ys = xs := ⟨_, rfl⟩
        rw [← hys] at h1 hS
        walk_at "s"
        refine y_trul (sqL hS) ?_
        cases hy : ys with
        | nil =>
          rw [hy] at h1 hS
          walk_at "s"
          exact h1 _ (Sep.clO' (⟨S.q, mixSd S.d S.q.turn, S.mx, S.ag, [], S.gone, S.beh⟩) dx q c l3 hS (by (try simp only [List.map_nil]); repeat (first | exact En.refl | exact En.nil | refine En.cons ?_ | refine En.drop ?_)))
        | cons y r =>
          rw [hy] at h1 hS
          walk_at "s"
          refine x_yes rfl ?_
          walk_at "s"
          refine y_bml (sqL hS) ?_
          walk_at "s"
          refine x_pop0 hS fun H hS => ?_
          walk_at "s"
          exact h1 _ (Sep.clO' (⟨S.q, mixSd S.d S.q.turn, S.mx, S.ag, r, S.gone, S.beh⟩) dx q c l3 hS (by (try simp only [List.map_nil]); repeat (first | exact En.refl | exact En.nil | refine En.cons ?_ | refine En.drop ?_)))
    · rw [if_neg (fun z => ha (by rw [z.2]))] at h1
      unfold OS.pop at h1
      rw [hd] at h1
      walk_at "s"
      refine y_trul (sqL hS) ?_
      walk_at "s"
      exact h1 _ (by rw [S.dk_eq hd]; exact (Sep.clO' (⟨S.q, S.d, S.mx, S.ag, [], S.gone, S.beh⟩) dx q c k hS (by (try simp only [List.map_nil]); repeat (first | exact En.refl | exact En.nil | refine En.cons ?_ | refine En.drop ?_))))

end
end TR

set_option Elab.async false
set_option linter.all false
set_option maxRecDepth 100000
set_option maxHeartbeats 4000000
/-! .. -/

namespace TR
open PySem PySem.Spec PyProof.Rows L2
section
variable {P : Program} {w : World} {K : PySem.W.Frag} {mg : Str → Option Value} {base : Heap}
/-- the place in the turn of what comes -/
def OS.at_ (S : OS) (e : Option Int) : Nat := if hasO e S.q.turn = true then (match e with
    | some i => S.q.turn.idxOf i + 1
    | none => 0) else if S.gone = true then (match S.beh with
    | some b => S.q.turn.idxOf b
    | none => S.q.turn.length) else 0
def OS.nextP (S : OS) (e : Option Int) : Option Int := if S.at_ e < S.q.turn.length then S.q.turn[S.at_ e]? else if S.ag = "all" then S.q.turn[0]? else none
def sp_Order_next_plain (K : PySem.W.Frag) : Sp := fun vs H Q E => ∃ (p : Addr) (e : Option Int) (S : OS) (R : List As), vs = [.ref p, oV e] ∧ S.Ok ∧ Sep (OrderR K p S :: R) H ∧ (∀ H', Sep (OrderR K p S :: R) H' → Q (oV (S.nextP e)) H')
theorem ln_Order_next_plain : ∀ vs H Q E, sp_Order_next_plain K vs H Q E → vs.length = (["self", "entry"] : List Str).length := by
  rintro _ _ _ _ ⟨p, e, S, R, rfl, _⟩
  rfl
theorem has_some {e : Option Int} {ns : List Int} (h : hasO e ns = true) : ∃ i, e = some i ∧ i ∈ ns := by
  cases e with
  | none => cases h
  | some i => exact ⟨i, rfl, of_decide_eq_true h⟩
theorem sc_Order_next_plain : FnScope ["self", "entry", "every", "place"] ["self", "entry"] (defScope s_Order_next_plain) := ⟨rfl, rfl, rfl, by decide +kernel, rfl, by decide +kernel, by decide +kernel⟩
theorem ok_Order_next_plain (T : Top K mg) : OkD P w K mg base d_Order_next_plain 2 ["self", "entry"] (sp_Order_next_plain K) := by
  refine okD (df_Order_next_plain T) sc_Order_next_plain (fun _ _ _ _ _ _ us hl => match us, hl with | [_, _], _ => rfl) ln_Order_next_plain (fun cdv A outer s H vs Q E hr h => ⟨_,
      pss_cons (ps_set (i := 2) sc_Order_next_plain.nd rfl (Or.inl rfl) (px_meth0 (ok_Queue_entries T) (hr.mono (by decide)) (pe_fld (pv 0) rfl) (cl_Queue T) (me_Queue_entries T) (fun σ => paD σ)))
      (pss_cons (ps_set (i := 3) sc_Order_next_plain.nd rfl (Or.inl rfl) (pe_ifExp (pt_cmpR op_in_seq (pv 1) (pv 2) (by rfl)) (pe_op op_addA (pe_bm PySem.F.plainAttrs_list PySem.F.slot_list_index PySem.F.type_list_index mt_index (pv 2) (pa_cons (pv 1) pa_nil)) pe_int) pe_int))
      (pss_cons (ps_if (PW.pt (pw_and (px_truth (pe_fld (pv 0) rfl) (by intro _; rfl)) (pw_and1 (pt_cmpR op_notIn_seq (pv 1) (pv 2) (by rfl)))))
       (pss_one (ps_set (i := 3) sc_Order_next_plain.nd rfl (Or.inl rfl) (pe_ifExp (pt_cmpR op_isN1 (pe_fld (pv 0) rfl) pe_non (nomark _)) (pe_callB call_lenA (by rfl) (fr_len T) (by decide +kernel) (pa_cons (pv 2) pa_nil)) (pe_bm PySem.F.plainAttrs_list PySem.F.slot_list_index PySem.F.type_list_index mt_index (pv 2) (pa_cons (pe_fld (pv 0) rfl) pa_nil)))))
       (pss_nil))
      (pss_cons (ps_if (pt_cmpR op_lt (pv 3) (pe_callB call_lenA (by rfl) (fr_len T) (by decide +kernel) (pa_cons (pv 2) pa_nil)) (nomark _))
       (pss_one (ps_ret (pe_ix ix_seq (pv 2) (pv 3) (fun _ _ => rfl))))
       (pss_nil))
      (pss_one (ps_ret (pe_ifExp (PW.pt (pw_and (pt_cmpR (op_eqA hr.units) (pe_fld (pv 0) rfl) pe_str (nomark _)) (pw_and1 (px_truth (pv 2) (by intro _; rfl))))) (pe_ix ix_seq (pv 2) pe_int (fun _ _ => rfl)) pe_non)))))), ?_⟩)
  obtain ⟨p, e, S, R, rfl, ho, hS, h1⟩ := h
  obtain ⟨dx, q, c, k, hS⟩ := hS.opO
  have hl := ho.len
  have etl : (S.q.turn.map V.int).length = S.q.turn.length := List.length_map _
  walk_at "go"
  refine ⟨q, S.q, _, rfl, hS.own q, fun l H hS => ?_⟩
  walk_at "s"
  refine x_inO (sqL hS) ?_
  walk_at "s"
  cases hh : hasO e S.q.turn with
  | true =>
    obtain ⟨i, he, hi⟩ := has_some hh
    have hat : S.at_ e = S.q.turn.idxOf i + 1 := by
      unfold OS.at_
      rw [if_pos hh, he]
    walk_at "s"
    refine y_bml (sqL hS) ?_
    walk_at "s"
    rw [he]
    refine x_ixI (sqL hS) hi ?_
    rw [← he]
    walk_at "s"
    cases hg : S.gone with
    | true =>
      walk_at "s"
      refine x_ninO (sqL hS) ?_
      rw [hh]
      walk_at "s"
      refine x_lenL (sqL hS) ?_
      walk_at "s"
      rw [etl]
      refine x_dec (fun h2 => ?_) (fun h2 => ?_)
      · obtain ⟨y, hy⟩ : ∃ y, S.q.turn[S.q.turn.idxOf i + 1]? = some y := ⟨_, List.getElem?_eq_getElem (by omega)⟩
        have e2 : S.nextP e = some y := by unfold OS.nextP; rw [hat, if_pos (by omega)]; exact hy
        walk_at "s"
        refine x_ixL (sqL hS) (atI_some (v := .int y) (by omega) (by rw [List.getElem?_map, show (((S.q.turn.idxOf i : Nat) : Int) + 1).toNat = S.q.turn.idxOf i + 1 by omega, hy] <;> rfl)) ?_
        rw [e2] at h1
        exact h1 _ (Sep.clO' (S) dx q c k hS (by (try simp only [List.map_nil]); repeat (first | exact En.refl | exact En.nil | refine En.cons ?_ | refine En.drop ?_)))
      · walk_at "s"
        refine x_eqS rfl ?_
        walk_at "s"
        refine x_dec (fun ha => ?_) (fun ha => ?_)
        · have ha' : S.ag = "all" := by injection ha
          have e2 : S.nextP e = S.q.turn[0]? := by unfold OS.nextP; rw [hat, if_neg (by omega), if_pos ha']
          rw [e2] at h1
          walk_at "s"
          refine y_trul (sqL hS) ?_
          cases ht : S.q.turn with
          | nil =>
            rw [ht] at h1
            walk_at "s"
            exact h1 _ (Sep.clO' (S) dx q c k hS (by (try simp only [List.map_nil]); repeat (first | exact En.refl | exact En.nil | refine En.cons ?_ | refine En.drop ?_)))
          | cons y r =>
            rw [ht] at h1
            walk_at "s"
            refine x_yes rfl ?_
            walk_at "s"
            refine x_ixL (sqL hS) (atI_nat (j := 0) (v := .int y) (by rw [ht] <;> rfl)) ?_
            walk_at "s"
            exact h1 _ (Sep.clO' (S) dx q c k hS (by (try simp only [List.map_nil]); repeat (first | exact En.refl | exact En.nil | refine En.cons ?_ | refine En.drop ?_)))
        · have e2 : S.nextP e = none := by unfold OS.nextP; rw [hat, if_neg (by omega), if_neg (fun z => ha (by rw [z]))]
          rw [e2] at h1
          walk_at "s"
          exact h1 _ (Sep.clO' (S) dx q c k hS (by (try simp only [List.map_nil]); repeat (first | exact En.refl | exact En.nil | refine En.cons ?_ | refine En.drop ?_)))
    | false =>
      walk_at "s"
      refine x_lenL (sqL hS) ?_
      walk_at "s"
      rw [etl]
      refine x_dec (fun h2 => ?_) (fun h2 => ?_)
      · obtain ⟨y, hy⟩ : ∃ y, S.q.turn[S.q.turn.idxOf i + 1]? = some y := ⟨_, List.getElem?_eq_getElem (by omega)⟩
        have e2 : S.nextP e = some y := by unfold OS.nextP; rw [hat, if_pos (by omega)]; exact hy
        walk_at "s"
        refine x_ixL (sqL hS) (atI_some (v := .int y) (by omega) (by rw [List.getElem?_map, show (((S.q.turn.idxOf i : Nat) : Int) + 1).toNat = S.q.turn.idxOf i + 1 by omega, hy] <;> rfl)) ?_
        rw [e2] at h1
        exact h1 _ (Sep.clO' (S) dx q c k hS (by (try simp only [List.map_nil]); repeat (first | exact En.refl | exact En.nil | refine En.cons ?_ | refine En.drop ?_)))
      · walk_at "s"
        refine x_eqS rfl ?_
        walk_at "s"
        refine x_dec (fun ha => ?_) (fun ha => ?_)
        · have ha' : S.ag = "all" := by injection ha
          have e2 : S.nextP e = S.q.turn[0]? := by unfold OS.nextP; rw [hat, if_neg (by omega), if_pos ha']
          rw [e2] at h1
          walk_at "s"
          refine y_trul (sqL hS) ?_
          cases ht : S.q.turn with
          | nil =>
            rw [ht] at h1
            walk_at "s"
            exact h1 _ (Sep.clO' (S) dx q c k hS (by (try simp only [List.map_nil]); repeat (first | exact En.refl | exact En.nil | refine En.cons ?_ | refine En.drop ?_)))
          | cons y r =>
            rw [ht] at h1
            walk_at "s"
            refine x_yes rfl ?_
            walk_at "s"
            refine x_ixL (sqL hS) (atI_nat (j := 0) (v := .int y) (by rw [ht] <;> rfl)) ?_
            walk_at "s"
            exact h1 _ (Sep.clO' (S) dx q c k hS (by (try simp only [List.map_nil]); repeat (first | exact En.refl | exact En.nil | refine En.cons ?_ | refine En.drop ?_)))
        · have e2 : S.nextP e = none := by unfold OS.nextP; rw [hat, if_neg (by omega), if_neg (fun z => ha (by rw [z]))]
          rw [e2] at h1
          walk_at "s"
          exact h1 _ (Sep.clO' (S) dx q c k hS (by (try simp only [List.map_nil]); repeat (first | exact En.refl | exact En.nil | refine En.cons ?_ | refine En.drop ?_)))
  | false =>
    have hn : ¬ hasO e S.q.turn = true := by rw [hh]; intro z; cases z
    walk_at "s"
    cases hg : S.gone with
    | true =>
      walk_at "s"
      refine x_ninO (sqL hS) ?_
      rw [hh]
      walk_at "s"
      cases hb : S.beh with
      | none =>
        have hat : S.at_ e = S.q.turn.length := by
          unfold OS.at_
          rw [if_neg hn, if_pos hg, hb]
        refine x_yes rfl ?_
        walk_at "s"
        refine x_lenL (sqL hS) ?_
        walk_at "s"
        rw [etl]
        walk_at "s"
        refine x_lenL (sqL hS) ?_
        walk_at "s"
        rw [etl]
        refine x_dec (fun h2 => ?_) (fun h2 => ?_)
        · obtain ⟨y, hy⟩ : ∃ y, S.q.turn[S.q.turn.length]? = some y := ⟨_, List.getElem?_eq_getElem (by omega)⟩
          have e2 : S.nextP e = some y := by unfold OS.nextP; rw [hat, if_pos (by omega)]; exact hy
          walk_at "s"
          refine x_ixL (sqL hS) (atI_some (v := .int y) (by omega) (by rw [List.getElem?_map, show (((S.q.turn.length : Nat) : Int)).toNat = S.q.turn.length by omega, hy] <;> rfl)) ?_
          rw [e2] at h1
          exact h1 _ (Sep.clO' (S) dx q c k hS (by (try simp only [List.map_nil]); repeat (first | exact En.refl | exact En.nil | refine En.cons ?_ | refine En.drop ?_)))
        · walk_at "s"
          refine x_eqS rfl ?_
          walk_at "s"
          refine x_dec (fun ha => ?_) (fun ha => ?_)
          · have ha' : S.ag = "all" := by injection ha
            have e2 : S.nextP e = S.q.turn[0]? := by unfold OS.nextP; rw [hat, if_neg (by omega), if_pos ha']
            rw [e2] at h1
            walk_at "s"
            refine y_trul (sqL hS) ?_
            cases ht : S.q.turn with
            | nil =>
              rw [ht] at h1
              walk_at "s"
              exact h1 _ (Sep.clO' (S) dx q c k hS (by (try simp only [List.map_nil]); repeat (first | exact En.refl | exact En.nil | refine En.cons ?_ | refine En.drop ?_)))
            | cons y r =>
              rw [ht] at h1
              walk_at "s"
              refine x_yes rfl ?_
              walk_at "s"
              refine x_ixL (sqL hS) (atI_nat (j := 0) (v := .int y) (by rw [ht] <;> rfl)) ?_
              walk_at "s"
              exact h1 _ (Sep.clO' (S) dx q c k hS (by (try simp only [List.map_nil]); repeat (first | exact En.refl | exact En.nil | refine En.cons ?_ | refine En.drop ?_)))
          · have e2 : S.nextP e = none := by unfold OS.nextP; rw [hat, if_neg (by omega), if_neg (fun z => ha (by rw [z]))]
            rw [e2] at h1
            walk_at "s"
            exact h1 _ (Sep.clO' (S) dx q c k hS (by (try simp only [List.map_nil]); repeat (first | exact En.refl | exact En.nil | refine En.cons ?_ | refine En.drop ?_)))
      | some b =>
        have hat : S.at_ e = S.q.turn.idxOf b := by
          unfold OS.at_
          rw [if_neg hn, if_pos hg, hb]
        refine x_no rfl ?_
        walk_at "s"
        refine y_bml (sqL hS) ?_
        walk_at "s"
        rw [hb]
        refine x_ixI (sqL hS) (ho.bh b hg hb) ?_
        walk_at "s"
        refine x_lenL (sqL hS) ?_
        walk_at "s"
        rw [etl]
        refine x_dec (fun h2 => ?_) (fun h2 => ?_)
        · obtain ⟨y, hy⟩ : ∃ y, S.q.turn[S.q.turn.idxOf b]? = some y := ⟨_, List.getElem?_eq_getElem (by omega)⟩
          have e2 : S.nextP e = some y := by unfold OS.nextP; rw [hat, if_pos (by omega)]; exact hy
          walk_at "s"
          refine x_ixL (sqL hS) (atI_some (v := .int y) (by omega) (by rw [List.getElem?_map, show (((S.q.turn.idxOf b : Nat) : Int)).toNat = S.q.turn.idxOf b by omega, hy] <;> rfl)) ?_
          rw [e2] at h1
          exact h1 _ (Sep.clO' (S) dx q c k hS (by (try simp only [List.map_nil]); repeat (first | exact En.refl | exact En.nil | refine En.cons ?_ | refine En.drop ?_)))
        · walk_at "s"
          refine x_eqS rfl ?_
          walk_at "s"
          refine x_dec (fun ha => ?_) (fun ha => ?_)
          · have ha' : S.ag = "all" := by injection ha
            have e2 : S.nextP e = S.q.turn[0]? := by unfold OS.nextP; rw [hat, if_neg (by omega), if_pos ha']
            rw [e2] at h1
            walk_at "s"
            refine y_trul (sqL hS) ?_
            cases ht : S.q.turn with
            | nil =>
              rw [ht] at h1
              walk_at "s"
              exact h1 _ (Sep.clO' (S) dx q c k hS (by (try simp only [List.map_nil]); repeat (first | exact En.refl | exact En.nil | refine En.cons ?_ | refine En.drop ?_)))
            | cons y r =>
              rw [ht] at h1
              walk_at "s"
              refine x_yes rfl ?_
              walk_at "s"
              refine x_ixL (sqL hS) (atI_nat (j := 0) (v := .int y) (by rw [ht] <;> rfl)) ?_
              walk_at "s"
              exact h1 _ (Sep.clO' (S) dx q c k hS (by (try simp only [List.map_nil]); repeat (first | exact En.refl | exact En.nil | refine En.cons ?_ | refine En.drop ?_)))
          · have e2 : S.nextP e = none := by unfold OS.nextP; rw [hat, if_neg (by omega), if_neg (fun z => ha (by rw [z]))]
            rw [e2] at h1
            walk_at "s"
            exact h1 _ (Sep.clO' (S) dx q c k hS (by (try simp only [List.map_nil]); repeat (first | exact En.refl | exact En.nil | refine En.cons ?_ | refine En.drop ?_)))
    | false =>
      have hat : S.at_ e = 0 := by
        unfold OS.at_
        rw [if_neg hn, if_neg (by rw [hg]; intro z; cases z)]
      walk_at "s"
      refine x_lenL (sqL hS) ?_
      walk_at "s"
      rw [etl]
      refine x_dec (fun h2 => ?_) (fun h2 => ?_)
      · obtain ⟨y, hy⟩ : ∃ y, S.q.turn[0]? = some y := ⟨_, List.getElem?_eq_getElem (by omega)⟩
        have e2 : S.nextP e = some y := by unfold OS.nextP; rw [hat, if_pos (by omega)]; exact hy
        walk_at "s"
        refine x_ixL (sqL hS) (atI_some (v := .int y) (by omega) (by rw [List.getElem?_map, show ((0 : Int)).toNat = 0 by omega, hy] <;> rfl)) ?_
        rw [e2] at h1
        exact h1 _ (Sep.clO' (S) dx q c k hS (by (try simp only [List.map_nil]); repeat (first | exact En.refl | exact En.nil | refine En.cons ?_ | refine En.drop ?_)))
      · walk_at "s"
        refine x_eqS rfl ?_
        walk_at "s"
        refine x_dec (fun ha => ?_) (fun ha => ?_)
        · have ha' : S.ag = "all" := by injection ha
          have e2 : S.nextP e = S.q.turn[0]? := by unfold OS.nextP; rw [hat, if_neg (by omega), if_pos ha']
          rw [e2] at h1
          walk_at "s"
          refine y_trul (sqL hS) ?_
          cases ht : S.q.turn with
          | nil =>
            rw [ht] at h1
            walk_at "s"
            exact h1 _ (Sep.clO' (S) dx q c k hS (by (try simp only [List.map_nil]); repeat (first | exact En.refl | exact En.nil | refine En.cons ?_ | refine En.drop ?_)))
          | cons y r =>
            rw [ht] at h1
            walk_at "s"
            refine x_yes rfl ?_
            walk_at "s"
            refine x_ixL (sqL hS) (atI_nat (j := 0) (v := .int y) (by rw [ht] <;> rfl)) ?_
            walk_at "s"
            exact h1 _ (Sep.clO' (S) dx q c k hS (by (try simp only [List.map_nil]); repeat (first | exact En.refl | exact En.nil | refine En.cons ?_ | refine En.drop ?_)))
        · have e2 : S.nextP e = none := by unfold OS.nextP; rw [hat, if_neg (by omega), if_neg (fun z => ha (by rw [z]))]
          rw [e2] at h1
          walk_at "s"
          exact h1 _ (Sep.clO' (S) dx q c k hS (by (try simp only [List.map_nil]); repeat (first | exact En.refl | exact En.nil | refine En.cons ?_ | refine En.drop ?_)))
def OS.skip (S : OS) (e : Option Int) : OS × Option Int := match S.mx with
  | true => S.nextM e
  | false => (S, S.nextP e)
def sp_Order_skip (K : PySem.W.Frag) : Sp := fun vs H Q E => ∃ (p : Addr) (e : Option Int) (S : OS) (R : List As), vs = [.ref p, oV e] ∧ S.Ok ∧ Sep (OrderR K p S :: R) H ∧ (∀ H', Sep (OrderR K p (S.skip e).1 :: R) H' → Q (oV (S.skip e).2) H')
theorem ln_Order_skip : ∀ vs H Q E, sp_Order_skip K vs H Q E → vs.length = (["self", "entry"] : List Str).length := by
  rintro _ _ _ _ ⟨p, e, S, R, rfl, _⟩
  rfl
theorem sc_Order_skip : FnScope ["self", "entry"] ["self", "entry"] (defScope s_Order_skip) := ⟨rfl, rfl, rfl, by decide +kernel, rfl, by decide +kernel, by decide +kernel⟩
theorem ok_Order_skip (T : Top K mg) : OkD P w K mg base d_Order_skip 4 ["self", "entry"] (sp_Order_skip K) := by
  refine okD (df_Order_skip T) sc_Order_skip (fun _ _ _ _ _ _ us hl => match us, hl with | [_, _], _ => rfl) ln_Order_skip (fun cdv A outer s H vs Q E hr h => ⟨_,
      pss_one (ps_ret (pe_ifExp (px_truth (pe_fld (pv 0) rfl) (by intro _; rfl)) (px_meth (ok_Order_next_mixed T) (hr.mono (by decide)) (pv 0) (cl_Order T) (me_Order_next_mixed T) (fun σ => paD σ) (pa_cons (pv 1) pa_nil)) (px_meth (ok_Order_next_plain T) (hr.mono (by decide)) (pv 0) (cl_Order T) (me_Order_next_plain T) (fun σ => paD σ) (pa_cons (pv 1) pa_nil)))), ?_⟩)
  obtain ⟨p, e, S, R, rfl, ho, hS, h1⟩ := h
  obtain ⟨dx, q, c, k, hS⟩ := hS.opO
  walk_at "go"
  unfold OS.skip at h1
  cases hm : S.mx with
  | true =>
    rw [hm] at h1
    walk_at "s"
    exact ⟨p, e, S, R, rfl, ho, (Sep.clO' (S) dx q c k hS (by (try simp only [List.map_nil]); repeat (first | exact En.refl | exact En.nil | refine En.cons ?_ | refine En.drop ?_))), h1⟩
  | false =>
    rw [hm] at h1
    walk_at "s"
    exact ⟨p, e, S, R, rfl, ho, (Sep.clO' (S) dx q c k hS (by (try simp only [List.map_nil]); repeat (first | exact En.refl | exact En.nil | refine En.cons ?_ | refine En.drop ?_))), h1⟩
def OS.after (S : OS) (e : Option Int) : OS × Option Int := if S.ag = "one" ∧ hasO e S.q.turn = true then (S, e) else S.skip e
def sp_Order_after (K : PySem.W.Frag) : Sp := fun vs H Q E => ∃ (p : Addr) (e : Option Int) (S : OS) (R : List As), vs = [.ref p, oV e] ∧ S.Ok ∧ Sep (OrderR K p S :: R) H ∧ (∀ H', Sep (OrderR K p (S.after e).1 :: R) H' → Q (oV (S.after e).2) H')
theorem ln_Order_after : ∀ vs H Q E, sp_Order_after K vs H Q E → vs.length = (["self", "entry"] : List Str).length := by
  rintro _ _ _ _ ⟨p, e, S, R, rfl, _⟩
  rfl
/-- an entry goes -/
def OS.hit (S : OS) (e : Int) (now : Option Int) : Prop := some e = now ∨ (S.gone = true ∧ some e = S.beh)
instance (S : OS) (e : Int) (now : Option Int) : Decidable (S.hit e now) := by unfold OS.hit; infer_instance
def OS.remove (S : OS) (e : Int) (now : Option Int) : OS := if S.hit e now then ⟨S.q.remove e, S.d, S.mx, S.ag, wo e S.deck, true, S.q.turn[S.q.turn.idxOf e + 1]?⟩ else ⟨S.q.remove e, S.d, S.mx, S.ag, wo e S.deck, S.gone, S.beh⟩
def sp_Order_remove (K : PySem.W.Frag) : Sp := fun vs H Q E => ∃ (p : Addr) (e : Int) (now : Option Int) (S : OS) (R : List As), vs = [.ref p, .int e, oV now] ∧ S.Ok ∧ Sep (OrderR K p S :: R) H ∧
  (e ∈ S.q.turn → ∀ H', Sep (OrderR K p (S.remove e now) :: R) H' → Q .non H') ∧ (e ∉ S.q.turn → ∀ H', Sep (OrderR K p S :: R) H' → E (.ref (He.ga K "BadEntry")) none H')
theorem ln_Order_remove : ∀ vs H Q E, sp_Order_remove K vs H Q E → vs.length = (["self", "entry", "now"] : List Str).length := by
  rintro _ _ _ _ ⟨p, e, now, S, R, rfl, _⟩
  rfl
theorem sc_Order_remove : FnScope ["self", "entry", "now", "later"] ["self", "entry", "now"] (defScope s_Order_remove) := ⟨rfl, rfl, rfl, by decide +kernel, rfl, by decide +kernel, by decide +kernel⟩
theorem ok_Order_remove (T : Top K mg) : OkD P w K mg base d_Order_remove 3 ["self", "entry", "now"] (sp_Order_remove K) := by
  refine okD (df_Order_remove T) sc_Order_remove (fun _ _ _ _ _ _ us hl => match us, hl with | [_, _, _], _ => rfl) ln_Order_remove (fun cdv A outer s H vs Q E hr h => ⟨_,
      pss_cons (ps_set (i := 3) sc_Order_remove.nd rfl (Or.inl rfl) (pe_slice sl_list (px_meth0 (ok_Queue_entries T) (hr.mono (by decide)) (pe_fld (pv 0) rfl) (cl_Queue T) (me_Queue_entries T) (fun σ => paD σ)) (po_some (pe_op op_addA (px_meth (ok_Queue_place T) (hr.mono (by decide)) (pe_fld (pv 0) rfl) (cl_Queue T) (me_Queue_place T) (fun σ => paD σ) (pa_cons (pv 1) pa_nil)) pe_int)) po_none))
      (pss_cons (ps_expr (px_meth (ok_Queue_remove T) (hr.mono (by decide)) (pe_fld (pv 0) rfl) (cl_Queue T) (me_Queue_remove T) (fun σ => paD σ) (pa_cons (pv 1) pa_nil)))
      (pss_cons (ps_if (pt_cmpR op_in_seq (pv 1) (pe_fld (pv 0) rfl) (by rfl))
       (pss_one (ps_expr (pe_bm PySem.F.plainAttrs_list PySem.F.slot_list_remove PySem.F.type_list_remove mt_remove (pe_fld (pv 0) rfl) (pa_cons (pv 1) pa_nil))))
       (pss_nil))
      (pss_one (ps_if (PW.pt (pw_or (pt_cmpR (op_eqA hr.units) (pv 1) (pv 2) (nomark _)) (pw_or1 (PW.pt (pw_and (px_truth (pe_fld (pv 0) rfl) (by intro _; rfl)) (pw_and1 (pt_cmpR (op_eqA hr.units) (pv 1) (pe_fld (pv 0) rfl) (nomark _))))))))
       (pss_cons (ps_fld (pv 0) pe_bl rfl)
        (pss_one (ps_fld (pv 0) (pe_ifExp (px_truth (pv 3) (by intro _; rfl)) (pe_ix ix_seq (pv 3) pe_int (fun _ _ => rfl)) pe_non) rfl)))
       (pss_nil))))), ?_⟩)
  obtain ⟨p, e, now, S, R, rfl, ho, hS, h1, h2⟩ := h
  obtain ⟨dx, q, c, k, hS⟩ := hS.opO
  walk_at "go"
  refine ⟨q, S.q, _, rfl, hS.own q, fun l H hS => ?_⟩
  walk_at "s"
  refine ⟨q, e, S.q, _, rfl, hS.own q, fun hy H hS => ?_, fun no H hS => h2 no _ (Sep.clO' (S) dx q c k hS (by (try simp only [List.map_nil]); repeat (first | exact En.refl | exact En.nil | refine En.cons ?_ | refine En.drop ?_)))⟩
  replace h1 := h1 hy
  walk_at "s"
  refine x_slL hS (sqL hS) fun l2 H hS => ?_
  have e1 : ((S.q.turn.idxOf e : Nat) : Int) + 1 = ((S.q.turn.idxOf e + 1 : Nat) : Int) := by omega
  rw [e1, cut_from] at hS
  obtain ⟨w, hw⟩ : ∃ w, w = S.q.turn.drop (S.q.turn.idxOf e + 1) := ⟨_, rfl⟩
  have hz : S.q.turn[S.q.turn.idxOf e + 1]? = w[0]? := by rw [hw, List.getElem?_drop, Nat.add_zero]
  rw [← hw] at hS
  unfold OS.remove at h1
  rw [hz] at h1
  walk_at "s"
  refine ⟨q, e, S.q, _, rfl, hS.own q, fun _ H hS => ?_, fun no => absurd hy no⟩
  walk_at "s"
  refine x_inI (sqL hS) ?_
  walk_at "s"
  refine x_dec (fun hd => ?_) (fun hd => ?_)
  · walk_at "s"
    refine y_bml (sqL hS) ?_
    walk_at "s"
    refine x_remI hS hd fun H hS => ?_
    rw [wo_rem ho.dnd hd] at hS
    walk_at "s"
    refine x_eqI1 ?_
    walk_at "s"
    refine x_dec (fun hn => ?_) (fun hn => ?_)
    · have hh : S.hit e now := .inl hn
      rw [if_pos hh] at h1
      walk_at "s"
      refine y_trul (sqL hS) ?_
      cases hx : w with
      | nil =>
        rw [hx] at h1
        walk_at "s"
        refine x_no rfl ?_
        walk_at "s"
        replace hS : Sep (pt p (.ins (He.ga K "Order") dx (nmOrder.zip [.ref q, .ref c, .bl S.mx, .str S.ag, .ref k, .bl true, oV none])) :: _) H := hS
        exact h1 _ (Sep.clO' (⟨S.q.remove e, S.d, S.mx, S.ag, wo e S.deck, true, none⟩) dx q c k hS (by (try simp only [List.map_nil]); repeat (first | exact En.refl | exact En.nil | refine En.cons ?_ | refine En.drop ?_)))
      | cons x r =>
        rw [hx] at h1
        walk_at "s"
        refine x_yes rfl ?_
        walk_at "s"
        refine x_ixL (sqL hS) (atI_nat (j := 0) (v := .int x) (by rw [hx] <;> rfl)) ?_
        walk_at "s"
        replace hS : Sep (pt p (.ins (He.ga K "Order") dx (nmOrder.zip [.ref q, .ref c, .bl S.mx, .str S.ag, .ref k, .bl true, oV (some x)])) :: _) H := hS
        exact h1 _ (Sep.clO' (⟨S.q.remove e, S.d, S.mx, S.ag, wo e S.deck, true, some x⟩) dx q c k hS (by (try simp only [List.map_nil]); repeat (first | exact En.refl | exact En.nil | refine En.cons ?_ | refine En.drop ?_)))
    · walk_at "s"
      cases hg : S.gone with
      | true =>
        walk_at "s"
        refine x_eqI1 ?_
        walk_at "s"
        refine x_dec (fun hb => ?_) (fun hb => ?_)
        · have hh : S.hit e now := .inr ⟨hg, hb⟩
          rw [if_pos hh] at h1
          walk_at "s"
          refine y_trul (sqL hS) ?_
          cases hx : w with
          | nil =>
            rw [hx] at h1
            walk_at "s"
            refine x_no rfl ?_
            walk_at "s"
            replace hS : Sep (pt p (.ins (He.ga K "Order") dx (nmOrder.zip [.ref q, .ref c, .bl S.mx, .str S.ag, .ref k, .bl true, oV none])) :: _) H := hS
            exact h1 _ (Sep.clO' (⟨S.q.remove e, S.d, S.mx, S.ag, wo e S.deck, true, none⟩) dx q c k hS (by (try simp only [List.map_nil]); repeat (first | exact En.refl | exact En.nil | refine En.cons ?_ | refine En.drop ?_)))
          | cons x r =>
            rw [hx] at h1
            walk_at "s"
            refine x_yes rfl ?_
            walk_at "s"
            refine x_ixL (sqL hS) (atI_nat (j := 0) (v := .int x) (by rw [hx] <;> rfl)) ?_
            walk_at "s"
            replace hS : Sep (pt p (.ins (He.ga K "Order") dx (nmOrder.zip [.ref q, .ref c, .bl S.mx, .str S.ag, .ref k, .bl true, oV (some x)])) :: _) H := hS
            exact h1 _ (Sep.clO' (⟨S.q.remove e, S.d, S.mx, S.ag, wo e S.deck, true, some x⟩) dx q c k hS (by (try simp only [List.map_nil]); repeat (first | exact En.refl | exact En.nil | refine En.cons ?_ | refine En.drop ?_)))
        · have hh : ¬ S.hit e now := fun z => z.elim hn fun z => hb z.2
          rw [if_neg hh] at h1
          walk_at "s"
          exact h1 _ (Sep.clO' (⟨S.q.remove e, S.d, S.mx, S.ag, wo e S.deck, S.gone, S.beh⟩) dx q c k hS (by (try simp only [List.map_nil]); repeat (first | exact En.refl | exact En.nil | refine En.cons ?_ | refine En.drop ?_)))
      | false =>
        have hh : ¬ S.hit e now := fun z => z.elim hn fun z => by rw [hg] at z; cases z.1
        rw [if_neg hh] at h1
        walk_at "s"
        exact h1 _ (Sep.clO' (⟨S.q.remove e, S.d, S.mx, S.ag, wo e S.deck, S.gone, S.beh⟩) dx q c k hS (by (try simp only [List.map_nil]); repeat (first | exact En.refl | exact En.nil | refine En.cons ?_ | refine En.drop ?_)))
  · walk_at "s"
    rw [wo_not hd] at h1
    refine x_eqI1 ?_
    walk_at "s"
    refine x_dec (fun hn => ?_) (fun hn => ?_)
    · have hh : S.hit e now := .inl hn
      rw [if_pos hh] at h1
      walk_at "s"
      refine y_trul (sqL hS) ?_
      cases hx : w with
      | nil =>
        rw [hx] at h1
        walk_at "s"
        refine x_no rfl ?_
        walk_at "s"
        replace hS : Sep (pt p (.ins (He.ga K "Order") dx (nmOrder.zip [.ref q, .ref c, .bl S.mx, .str S.ag, .ref k, .bl true, oV none])) :: _) H := hS
        exact h1 _ (Sep.clO' (⟨S.q.remove e, S.d, S.mx, S.ag, S.deck, true, none⟩) dx q c k hS (by (try simp only [List.map_nil]); repeat (first | exact En.refl | exact En.nil | refine En.cons ?_ | refine En.drop ?_)))
      | cons x r =>
        rw [hx] at h1
        walk_at "s"
        refine x_yes rfl ?_
        walk_at "s"
        refine x_ixL (sqL hS) (atI_nat (j := 0) (v := .int x) (by rw [hx] <;> rfl)) ?_
        walk_at "s"
        replace hS : Sep (pt p (.ins (He.ga K "Order") dx (nmOrder.zip [.ref q, .ref c, .bl S.mx, .str S.ag, .ref k, .bl true, oV (some x)])) :: _) H := hS
        exact h1 _ (Sep.clO' (⟨S.q.remove e, S.d, S.mx, S.ag, S.deck, true, some x⟩) dx q c k hS (by (try simp only [List.map_nil]); repeat (first | exact En.refl | exact En.nil | refine En.cons ?_ | refine En.drop ?_)))
    · walk_at "s"
      cases hg : S.gone with
      | true =>
        walk_at "s"
        refine x_eqI1 ?_
        walk_at "s"
        refine x_dec (fun hb => ?_) (fun hb => ?_)
        · have hh : S.hit e now := .inr ⟨hg, hb⟩
          rw [if_pos hh] at h1
          walk_at "s"
          refine y_trul (sqL hS) ?_
          cases hx : w with
          | nil =>
            rw [hx] at h1
            walk_at "s"
            refine x_no rfl ?_
            walk_at "s"
            replace hS : Sep (pt p (.ins (He.ga K "Order") dx (nmOrder.zip [.ref q, .ref c, .bl S.mx, .str S.ag, .ref k, .bl true, oV none])) :: _) H := hS
            exact h1 _ (Sep.clO' (⟨S.q.remove e, S.d, S.mx, S.ag, S.deck, true, none⟩) dx q c k hS (by (try simp only [List.map_nil]); repeat (first | exact En.refl | exact En.nil | refine En.cons ?_ | refine En.drop ?_)))
          | cons x r =>
            rw [hx] at h1
            walk_at "s"
            refine x_yes rfl ?_
            walk_at "s"
            refine x_ixL (sqL hS) (atI_nat (j := 0) (v := .int x) (by rw [hx] <;> rfl)) ?_
            walk_at "s"
            replace hS : Sep (pt p (.ins (He.ga K "Order") dx (nmOrder.zip [.ref q, .ref c, .bl S.mx, .str S.ag, .ref k, .bl true, oV (some x)])) :: _) H := hS
            exact h1 _ (Sep.clO' (⟨S.q.remove e, S.d, S.mx, S.ag, S.deck, true, some x⟩) dx q c k hS (by (try simp only [List.map_nil]); repeat (first | exact En.refl | exact En.nil | refine En.cons ?_ | refine En.drop ?_)))
        · have hh : ¬ S.hit e now := fun z => z.elim hn fun z => hb z.2
          rw [if_neg hh] at h1
          walk_at "s"
          exact h1 _ (Sep.clO' (⟨S.q.remove e, S.d, S.mx, S.ag, S.deck, S.gone, S.beh⟩) dx q c k hS (by (try simp only [List.map_nil]); repeat (first | exact En.refl | exact En.nil | refine En.cons ?_ | refine En.drop ?_)))
      | false =>
        have hh : ¬ S.hit e now := fun z => z.elim hn fun z => by rw [hg] at z; cases z.1
        rw [if_neg hh] at h1
        walk_at "s"
        exact h1 _ (Sep.clO' (⟨S.q.remove e, S.d, S.mx, S.ag, S.deck, S.gone, S.beh⟩) dx q c k hS (by (try simp only [List.map_nil]); repeat (first | exact En.refl | exact En.nil | refine En.cons ?_ | refine En.drop ?_)))

end
end TR

set_option Elab.async false
set_option linter.all false
set_option maxRecDepth 100000
set_option maxHeartbeats 4000000
/-! .. -/

namespace TR
open PySem PySem.Spec PyProof.Rows L2
section
variable {P : Program} {w : World} {K : PySem.W.Frag} {mg : Str → Option Value} {base : Heap}
/-! ### what orders keep -/
theorem insAt_perm (xs : List Int) (i : Nat) (y : Int) : (insAt xs i y).Perm (y :: xs) := by
  have h := List.perm_middle (a := y) (l₁ := xs.take i) (l₂ := xs.drop i)
  rw [List.take_append_drop] at h
  unfold insAt
  rw [List.append_assoc]
  exact h
theorem mem_wo {e a : Int} {ns : List Int} : a ∈ wo e ns ↔ a ∈ ns ∧ a ≠ e := by
  unfold wo
  rw [List.mem_filter]
  simp
theorem wo_nodup {e : Int} {ns : List Int} (h : ns.Nodup) : (wo e ns).Nodup := List.Nodup.sublist List.filter_sublist h
theorem rot_perm {xs : List Int} (h : 1 < xs.length) : (rot xs).Perm xs := by
  have e1 : xs = xs.take 1 ++ ((xs.drop 1).take (xs.length - 1 - 1) ++ xs.drop (xs.length - 1)) := by
    have e2 : xs.drop (xs.length - 1) = (xs.drop 1).drop (xs.length - 1 - 1) := by
      rw [List.drop_drop]
      congr 1
      omega
    rw [e2, List.take_append_drop, List.take_append_drop]
  obtain ⟨a, ha⟩ : ∃ a, a = xs.take 1 := ⟨_, rfl⟩
  obtain ⟨b, hb⟩ : ∃ b, b = (xs.drop 1).take (xs.length - 1 - 1) := ⟨_, rfl⟩
  obtain ⟨c, hc⟩ : ∃ c, c = xs.drop (xs.length - 1) := ⟨_, rfl⟩
  have e4 : xs = a ++ (b ++ c) := by
    rw [ha, hb, hc]
    exact e1
  unfold rot
  rw [← ha, ← hb, ← hc]
  have e3 : (c ++ b ++ a).Perm (a ++ (b ++ c)) := (List.perm_append_comm).trans (List.Perm.append_left a List.perm_append_comm)
  exact e3.trans (List.Perm.of_eq e4.symm)
theorem turnD_perm (e : Option Int) (xs : List Int) : (turnD e xs).Perm xs := by
  unfold turnD
  split
  · next h => exact rot_perm h.1
  · exact .refl _
theorem OS.Ok.deck {S : OS} (h : S.Ok) {ds : List Int} {d : Int} (hd : ds.Nodup) (hs : ∀ e ∈ ds, e ∈ S.q.turn) (ok : okSeed d) (mx : Bool) (ag : Str) : OS.Ok ⟨S.q, d, mx, ag, ds, S.gone, S.beh⟩ :=
  ⟨h.nd, hd, h.pos, hs, h.len, h.tl, ok, h.bh⟩
theorem OS.Ok.again {S : OS} (h : S.Ok) (z : Str) : OS.Ok { S with ag := z } := h.deck h.dnd h.sub h.seed S.mx z
theorem OS.Ok.setMixed {S : OS} (h : S.Ok) (b : Bool) (e : Option Int) : (S.setMixed b e).Ok := by
  unfold OS.setMixed
  split
  · have hp := mixN_perm S.d (S.rest e)
    exact h.deck (hp.nodup_iff.mpr (List.Nodup.sublist List.filter_sublist h.nd)) (fun a ha => (List.mem_filter.mp (hp.mem_iff.mp ha)).1) (mixSd_ok h.seed _) _ _
  · exact h
  · exact h.deck List.nodup_nil (fun a ha => by cases ha) h.seed _ _
theorem OS.Ok.pop {S : OS} (h : S.Ok) : S.pop.1.Ok := by
  unfold OS.pop
  split
  · exact h
  · next x r hd =>
    have h1 := h.dnd
    rw [hd] at h1
    exact h.deck (List.nodup_cons.mp h1).2 (fun a ha => h.sub a (by rw [hd]; exact List.mem_cons_of_mem _ ha)) h.seed _ _
theorem OS.Ok.deal {S : OS} (h : S.Ok) {f : List Int → List Int} (hf : ∀ xs, (f xs).Perm xs) : (S.deal f).Ok := by
  have hp := (hf (mixN S.d S.q.turn)).trans (mixN_perm S.d S.q.turn)
  exact h.deck (hp.nodup_iff.mpr h.nd) (fun a ha => hp.mem_iff.mp ha) (mixSd_ok h.seed _) _ _
theorem OS.Ok.first {S : OS} (h : S.Ok) : S.first.1.Ok := by
  unfold OS.first
  split
  · exact h
  · split
    · exact (h.deal (f := id) fun _ => .refl _).pop
    · exact h.pop
theorem OS.Ok.nextM {S : OS} (h : S.Ok) (e : Option Int) : (S.nextM e).1.Ok := by
  unfold OS.nextM
  split
  · exact (h.deal (turnD_perm e)).pop
  · exact h.pop
theorem OS.Ok.skip {S : OS} (h : S.Ok) (e : Option Int) : (S.skip e).1.Ok := by
  unfold OS.skip
  split
  · exact h.nextM e
  · exact h
theorem OS.Ok.after {S : OS} (h : S.Ok) (e : Option Int) : (S.after e).1.Ok := by
  unfold OS.after
  split
  · exact h
  · exact h.skip e
theorem OS.Ok.began {S : OS} (h : S.Ok) (e : Int) : (S.began e).Ok :=
  ⟨h.nd, wo_nodup h.dnd, h.pos, fun a ha => h.sub a (mem_wo.mp ha).1, h.len, h.tl, h.seed, fun b hg hb => by
    have hg' : (if e ∈ S.q.turn then false else S.gone) = true := hg
    split at hg'
    · cases hg'
    · exact h.bh b hg' hb⟩
theorem OS.Ok.put {S : OS} (h : S.Ok) {z : Str} {pl : Int} (o : okPut S.q pl) (ht : S.q.tunes.length < 1000) : (S.put z pl.toNat).Ok := by
  obtain ⟨o1, o2, o3⟩ := o
  have hl := h.len
  have fresh : ∀ a ∈ S.q.turn, a ≠ ((S.q.tunes.length : Nat) : Int) + 1 := fun a ha z => by
    have := (h.pos a ha).2
    omega
  have hp := insAt_perm S.q.turn pl.toNat ((S.q.tunes.length : Nat) + 1)
  have nd : (insAt S.q.turn pl.toNat ((S.q.tunes.length : Nat) + 1)).Nodup := hp.nodup_iff.mpr (List.nodup_cons.mpr ⟨fun z => fresh _ z rfl, h.nd⟩)
  have pos : ∀ a ∈ insAt S.q.turn pl.toNat ((S.q.tunes.length : Nat) + 1), 1 ≤ a ∧ a ≤ ((S.q.tunes ++ [z]).length : Nat) := fun a ha => by
    rw [List.length_append, List.length_singleton]
    rcases List.mem_cons.mp (hp.mem_iff.mp ha) with rfl | ha
    · omega
    · have := h.pos a ha
      omega
  have len : (insAt S.q.turn pl.toNat ((S.q.tunes.length : Nat) + 1)).length ≤ 12 := by
    rw [hp.length_eq, List.length_cons]
    omega
  have tl : (S.q.tunes ++ [z]).length ≤ 1000 := by
    rw [List.length_append, List.length_singleton]
    omega
  have inn : ∀ a ∈ S.q.turn, a ∈ insAt S.q.turn pl.toNat ((S.q.tunes.length : Nat) + 1) := fun a ha => hp.mem_iff.mpr (List.mem_cons_of_mem _ ha)
  unfold OS.put
  split
  · have hq := insAt_perm S.deck (dval S.d ((S.deck.length : Nat) + 1)).toNat ((S.q.tunes.length : Nat) + 1)
    refine ⟨nd, hq.nodup_iff.mpr (List.nodup_cons.mpr ⟨fun z => fresh _ (h.sub _ z) rfl, h.dnd⟩), pos, fun a ha => ?_, len, tl, dnext_ok _, fun b hg hb => inn b (h.bh b hg hb)⟩
    rcases List.mem_cons.mp (hq.mem_iff.mp ha) with rfl | ha
    · exact hp.mem_iff.mpr List.mem_cons_self
    · exact inn a (h.sub a ha)
  · exact ⟨nd, h.dnd, pos, fun a ha => inn a (h.sub a ha), len, tl, h.seed, fun b hg hb => inn b (h.bh b hg hb)⟩
theorem OS.Ok.remove {S : OS} (h : S.Ok) {e : Int} (he : e ∈ S.q.turn) (now : Option Int) : (S.remove e now).Ok := by
  have eq : S.q.remove e = ⟨wo e S.q.turn, S.q.tunes⟩ := by unfold QS.remove; rw [wo_rem h.nd he]
  have sub : ∀ a ∈ wo e S.deck, a ∈ wo e S.q.turn := fun a ha => mem_wo.mpr ⟨h.sub a (mem_wo.mp ha).1, (mem_wo.mp ha).2⟩
  have len : (wo e S.q.turn).length ≤ 12 := Nat.le_trans (List.length_filter_le _ _) h.len
  unfold OS.remove
  rw [eq]
  split
  · refine ⟨wo_nodup h.nd, wo_nodup h.dnd, fun a ha => h.pos a (mem_wo.mp ha).1, sub, len, h.tl, h.seed, fun b _ hb => ?_⟩
    have hb' : S.q.turn[S.q.turn.idxOf e + 1]? = some b := hb
    obtain ⟨hi, hx⟩ := List.getElem?_eq_some_iff.mp hb'
    refine mem_wo.mpr ⟨hx ▸ List.getElem_mem hi, fun z => ?_⟩
    obtain ⟨hi2, hx2⟩ := List.getElem?_eq_some_iff.mp (first_ix he).1
    exact List.pairwise_iff_getElem.mp h.nd (S.q.turn.idxOf e) (S.q.turn.idxOf e + 1) hi2 hi (Nat.lt_succ_self _) (by rw [hx, hx2, z])
  · next hh =>
    refine ⟨wo_nodup h.nd, wo_nodup h.dnd, fun a ha => h.pos a (mem_wo.mp ha).1, sub, len, h.tl, h.seed, fun b hg hb => mem_wo.mpr ⟨h.bh b hg hb, fun z => hh (.inr ⟨hg, ?_⟩)⟩⟩
    have hb' : S.beh = some b := hb
    rw [hb', z]
/-- an entry moves -/
def OS.move (S : OS) (e : Int) (pl : Nat) : OS := ⟨S.q.move e pl, S.d, S.mx, S.ag, S.deck, S.gone, S.beh⟩
theorem move_perm {S : OS} (h : S.Ok) {e : Int} (he : e ∈ S.q.turn) (pl : Nat) : (S.q.move e pl).turn.Perm S.q.turn := by
  show (insAt (S.q.turn.eraseIdx (S.q.turn.idxOf e)) pl e).Perm S.q.turn
  refine (insAt_perm _ _ _).trans ?_
  rw [← List.erase_eq_eraseIdx_of_idxOf (by rfl)]
  exact (List.perm_cons_erase he).symm
theorem OS.Ok.move {S : OS} (h : S.Ok) {e : Int} (he : e ∈ S.q.turn) (pl : Nat) : (S.move e pl).Ok := by
  have hp := move_perm h he pl
  exact ⟨hp.nodup_iff.mpr h.nd, h.dnd, fun a ha => h.pos a (hp.mem_iff.mp ha), fun a ha => hp.mem_iff.mpr (h.sub a ha), by show (S.q.move e pl).turn.length ≤ 12; rw [hp.length_eq]; exact h.len, h.tl, h.seed, fun b hg hb => hp.mem_iff.mpr (h.bh b hg hb)⟩
/-! tunes stay -/
theorem OS.pop_q (S : OS) : S.pop.1.q = S.q := by
  unfold OS.pop
  split <;> rfl
theorem OS.first_q (S : OS) : S.first.1.q = S.q := by
  unfold OS.first
  split
  · rfl
  · split
    · exact OS.pop_q _
    · exact OS.pop_q _
theorem OS.skip_q (S : OS) (e : Option Int) : (S.skip e).1.q = S.q := by
  unfold OS.skip OS.nextM
  split
  · split
    · exact OS.pop_q _
    · exact OS.pop_q _
  · rfl
theorem OS.after_q (S : OS) (e : Option Int) : (S.after e).1.q = S.q := by
  unfold OS.after
  split
  · rfl
  · exact S.skip_q e
theorem OS.setMixed_q (S : OS) (b : Bool) (e : Option Int) : (S.setMixed b e).q = S.q := by
  unfold OS.setMixed
  split <;> rfl
theorem OS.remove_t (S : OS) (e : Int) (now : Option Int) : (S.remove e now).q.tunes = S.q.tunes := by
  unfold OS.remove
  split <;> rfl
theorem OS.put_t (S : OS) (z : Str) (pl : Nat) : (S.put z pl).q.tunes = S.q.tunes ++ [z] := by
  unfold OS.put
  split <;> rfl

end
end TR

set_option Elab.async false
set_option linter.all false
set_option maxRecDepth 100000
set_option maxHeartbeats 4000000
/-! .. -/

namespace TR
open PySem PySem.Spec PyProof.Rows L2
section
variable {P : Program} {w : World} {K : PySem.W.Frag} {mg : Str → Option Value} {base : Heap}
/-! ### rounds -/
/-- what is left of a round, or a round anew -/
def OS.dk (S : OS) (now : Option Int) : List Int := if S.deck = [] then turnD now (mixN S.d S.q.turn) else S.deck
def OS.sd (S : OS) : Int := if S.deck = [] then mixSd S.d S.q.turn else S.d
/-- a mixed order with entries, repeated -/
structure OS.Go (S : OS) : Prop where
  ok : S.Ok
  mx : S.mx = true
  ag : S.ag = "all"
  ne : S.q.turn ≠ []
def OS.nx (S : OS) (now : Option Int) : OS := ⟨S.q, S.sd, true, "all", (S.dk now).tail, false, S.beh⟩
theorem OS.Go.dkp {S : OS} (h : S.Go) (now : Option Int) : S.dk now ≠ [] ∧ (S.dk now).Nodup ∧ ∀ a ∈ S.dk now, a ∈ S.q.turn := by
  unfold OS.dk
  split
  · have hp := (turnD_perm now (mixN S.d S.q.turn)).trans (mixN_perm S.d S.q.turn)
    exact ⟨fun z => h.ne (List.length_eq_zero_iff.mp (by rw [← hp.length_eq, z]; rfl)), hp.nodup_iff.mpr h.ok.nd, fun a ha => hp.mem_iff.mp ha⟩
  · next hd => exact ⟨hd, h.ok.dnd, h.ok.sub⟩
theorem OS.Go.sdk {S : OS} (h : S.Go) : okSeed S.sd := by
  unfold OS.sd
  split
  · exact mixSd_ok h.ok.seed _
  · exact h.ok.seed
theorem OS.Go.nx {S : OS} (h : S.Go) (now : Option Int) : (S.nx now).Go := by
  obtain ⟨h1, h2, h3⟩ := h.dkp now
  exact ⟨⟨h.ok.nd, List.Nodup.sublist (List.tail_sublist _) h2, h.ok.pos, fun a ha => h3 a (List.mem_of_mem_tail ha), h.ok.len, h.ok.tl, h.sdk, fun b z => by cases z⟩, rfl, rfl, h.ne⟩
theorem OS.Go.step {S : OS} (h : S.Go) (now : Option Int) : ∃ x r, S.dk now = x :: r ∧ S.skip now = (⟨S.q, S.sd, true, "all", r, S.gone, S.beh⟩, some x) ∧ OS.began ⟨S.q, S.sd, true, "all", r, S.gone, S.beh⟩ x = S.nx now := by
  obtain ⟨h1, h2, h3⟩ := h.dkp now
  cases hd : S.dk now with
  | nil => exact absurd hd h1
  | cons x r =>
    refine ⟨x, r, rfl, ?_, ?_⟩
    · unfold OS.skip
      rw [h.mx]
      show S.nextM now = _
      unfold OS.nextM OS.sd
      unfold OS.dk at hd
      by_cases hz : S.deck = []
      · rw [if_pos ⟨hz, h.ag⟩, if_pos hz]
        rw [if_pos hz] at hd
        unfold OS.pop OS.deal
        dsimp only
        rw [hd, h.mx, h.ag]
      · rw [if_neg (fun z => hz z.1), if_neg hz]
        rw [if_neg hz] at hd
        unfold OS.pop
        rw [hd, h.mx, h.ag]
    · rw [hd] at h2 h3
      unfold OS.began OS.nx
      rw [hd, wo_not (List.nodup_cons.mp h2).1, if_pos (h3 x List.mem_cons_self)]
      rfl
/-- rounds of skips: the order, the one now, those that came -/
structure RS where
  S : OS
  now : Option Int
  f : List Int
def RS.stp (T : RS) : RS := ⟨T.S.nx T.now, (T.S.dk T.now).head?, T.f ++ (T.S.dk T.now).take 1⟩
def RS.it (T : RS) : Nat → RS
  | 0 => T
  | i + 1 => (T.it i).stp
theorem RS.it_go {T : RS} (h : T.S.Go) : ∀ i, (T.it i).S.Go
  | 0 => h
  | i + 1 => (RS.it_go h i).nx _
theorem RS.it_q {T : RS} : ∀ i, (T.it i).S.q = T.S.q
  | 0 => rfl
  | i + 1 => RS.it_q (T := T) i
theorem RS.it_len {T : RS} (h : T.S.Go) : ∀ i, (T.it i).f.length = T.f.length + i
  | 0 => rfl
  | i + 1 => by
    show ((T.it i).f ++ ((T.it i).S.dk (T.it i).now).take 1).length = _
    obtain ⟨x, r, hd, _⟩ := (RS.it_go h i).step (T.it i).now
    rw [List.length_append, RS.it_len h i, hd]
    rfl
theorem RS.it_add {T : RS} (i : Nat) : ∀ j, T.it (i + j) = (T.it i).it j
  | 0 => rfl
  | j + 1 => congrArg RS.stp (RS.it_add i j)
/-- as long as it goes by one deck -/
theorem RS.it_dk {T : RS} (h : T.S.Go) : ∀ i, i < (T.S.dk T.now).length → (T.it (i + 1)).S.deck = (T.S.dk T.now).drop (i + 1) ∧ (T.it (i + 1)).now = (T.S.dk T.now)[i]? ∧ (T.it (i + 1)).f = T.f ++ (T.S.dk T.now).take (i + 1)
  | 0, hi => by
    refine ⟨?_, ?_, rfl⟩
    · show (T.S.dk T.now).tail = _
      rw [List.drop_one]
    · show (T.S.dk T.now).head? = _
      rw [List.head?_eq_getElem?]
  | i + 1, hi => by
    obtain ⟨h1, h2, h3⟩ := RS.it_dk h i (by omega)
    have e : (T.it (i + 1)).S.dk (T.it (i + 1)).now = (T.S.dk T.now).drop (i + 1) := by
      show (if (T.it (i + 1)).S.deck = [] then _ else (T.it (i + 1)).S.deck) = _
      rw [h1, if_neg]
      intro z
      have := congrArg List.length z
      rw [List.length_drop] at this
      have h0 : ([] : List Int).length = 0 := rfl
      omega
    refine ⟨?_, ?_, ?_⟩
    · show ((T.it (i + 1)).S.dk (T.it (i + 1)).now).tail = _
      rw [e, List.tail_drop]
    · show ((T.it (i + 1)).S.dk (T.it (i + 1)).now).head? = _
      rw [e, List.head?_drop]
    · show (T.it (i + 1)).f ++ ((T.it (i + 1)).S.dk (T.it (i + 1)).now).take 1 = _
      rw [e, h3, List.append_assoc, List.take_add (i := i + 1) (j := 1)]
def sp_l_round (K : PySem.W.Frag) : Sp := fun vs H Q E => ∃ (o : Addr) (now : Option Int) (S : OS) (R : List As), vs = [.ref o, oV now] ∧ S.Go ∧ Sep (OrderR K o S :: R) H ∧
  ∀ l H', Sep (pt l (.lst (((RS.mk S now []).it S.q.turn.length).f.map V.int)) :: OrderR K o ((RS.mk S now []).it S.q.turn.length).S :: R) H' → Q (.ref l) H'
theorem ln_l_round : ∀ vs H Q E, sp_l_round K vs H Q E → vs.length = (["_law_order", "_law_now"] : List Str).length := by
  rintro _ _ _ _ ⟨o, now, S, R, rfl, _⟩
  rfl
theorem sc_l_round : FnScope ["_law_order", "_law_now", "_law_found", "_law_k"] ["_law_order", "_law_now"] (defScope s_l_round) := ⟨rfl, rfl, rfl, by decide +kernel, rfl, by decide +kernel, by decide +kernel⟩
theorem ok_l_round (T : Top K mg) : OkD P w K mg base d_l_round 5 ["_law_order", "_law_now"] (sp_l_round K) := by
  refine okD (df_l_round T) sc_l_round (fun _ _ _ _ _ _ us hl => match us, hl with | [_, _], _ => rfl) ln_l_round (fun cdv A outer s H vs Q E hr h => ⟨_,
      pss_cons (ps_set (i := 2) sc_l_round.nd rfl (Or.inl rfl) (pe_lst pa_nil))
      (pss_cons (ps_for (passes_of rfl) rfl (pi_range1 rfl (fr_range T) (pa_cons (pe_callB call_lenA (by rfl) (fr_len T) (by decide +kernel) (pa_cons (px_meth0 (ok_Queue_entries T) (hr.mono (by decide)) (pe_fld (pv 0) rfl) (cl_Queue T) (me_Queue_entries T) (fun σ => paD σ)) pa_nil)) pa_nil)) (pg_name (i := 3) sc_l_round.nd rfl (Or.inl rfl))
       (pss_cons (ps_set (i := 1) sc_l_round.nd rfl (Or.inl rfl) (px_meth (ok_Order_skip T) (hr.mono (by decide)) (pv 0) (cl_Order T) (me_Order_skip T) (fun σ => paD σ) (pa_cons (pv 1) pa_nil)))
        (pss_cons (ps_expr (px_meth (ok_Order_began T) (hr.mono (by decide)) (pv 0) (cl_Order T) (me_Order_began T) (fun σ => paD σ) (pa_cons (pv 1) pa_nil)))
        (pss_one (ps_expr (pe_bm PySem.F.plainAttrs_list PySem.F.slot_list_append PySem.F.type_list_append mt_append (pv 2) (pa_cons (pv 1) pa_nil)))))))
      (pss_one (ps_ret (pv 2)))), ?_⟩)
  obtain ⟨o, now, S, R, rfl, hG, hS, h1⟩ := h
  have hl := hG.ok.len
  walk_at "go"
  rename Addr => f
  obtain ⟨dx, q, c, k, hS⟩ := (hS.own o).opO
  walk_at "s"
  refine ⟨q, S.q, _, rfl, hS.own q, fun l H hS => ?_⟩
  walk_at "s"
  refine x_lenL (sqL hS) ?_
  walk_at "s"
  rw [List.length_map]
  have hS : Sep (OrderR K o S :: pt f (.lst (([] : List Int).map V.int)) :: R) H := (Sep.clO' (S) dx q c k hS (by (try simp only [List.map_nil]); repeat (first | exact En.refl | exact En.nil | refine En.cons ?_ | refine En.drop ?_)))
  refine y_for1 (fun i σ H => ∃ (b3 : Option V), σ = [some (.ref o), some (oV ((RS.mk S now []).it i).now), some (.ref f), b3] ∧ Sep (OrderR K o ((RS.mk S now []).it i).S :: pt f (.lst (((RS.mk S now []).it i).f.map V.int)) :: R) H)
    (by omega) ⟨_, rfl, hS⟩ ?_ ?_
  · rintro i σ H hi ⟨b3, rfl, hS⟩
    have hlen := RS.it_len (T := RS.mk S now []) hG i
    have hGi := RS.it_go (T := RS.mk S now []) hG i
    obtain ⟨T, hT⟩ : ∃ T, T = (RS.mk S now []).it i := ⟨_, rfl⟩
    have e1 : (RS.mk S now []).it (i + 1) = T.stp := by rw [hT]; rfl
    rw [e1]
    rw [← hT] at hS hGi hlen ⊢
    obtain ⟨x, r, hd, hs1, hs2⟩ := hGi.step T.now
    walk_at "s"
    refine ⟨o, T.now, T.S, _, rfl, hGi.ok, hS, fun H hS => ?_⟩
    rw [hs1] at hS ⊢
    walk_at "s"
    refine ⟨o, x, _, _, rfl, ?_, hS, fun H hS => ?_⟩
    · have := hGi.ok.skip T.now
      rw [hs1] at this
      exact this
    rw [hs2] at hS
    walk_at "s"
    refine y_bml (sqL hS) ?_
    walk_at "s"
    refine x_append hS (by rw [List.length_map, hlen]; exact sz (by show [].length + i ≤ _; rw [List.length_nil]; omega)) fun H hS => ?_
    walk_at "s"
    have e2 : T.stp = ⟨T.S.nx T.now, some x, T.f ++ [x]⟩ := by
      unfold RS.stp
      rw [hd]
      rfl
    rw [e2]
    have e3 : T.f.map V.int ++ [oV (some x)] = (T.f ++ [x]).map V.int := by rw [List.map_append] <;> rfl
    rw [e3] at hS
    exact ⟨_, rfl, (hS.of (by repeat (first | exact En.refl | exact En.nil | refine En.cons ?_ | refine En.drop ?_)))⟩
  · rintro σ H ⟨b3, rfl, hS⟩
    walk_at "s"
    exact h1 f _ (hS.of (by repeat (first | exact En.refl | exact En.nil | refine En.cons ?_ | refine En.drop ?_)))

end
end TR

set_option Elab.async false
set_option linter.all false
set_option maxRecDepth 100000
set_option maxHeartbeats 4000000
/-! .. -/

namespace TR
open PySem PySem.Spec PyProof.Rows L2
section
variable {P : Program} {w : World} {K : PySem.W.Frag} {mg : Str → Option Value} {base : Heap}
/-! ### none twice in a row -/
def nt : Option Int → List Int → Prop
  | _, [] => True
  | p, x :: r => p ≠ some x ∧ nt (some x) r
def lst : Option Int → List Int → Option Int
  | p, [] => p
  | _, x :: r => lst (some x) r
theorem nt_append : ∀ {xs ys : List Int} {p : Option Int}, nt p xs → nt (lst p xs) ys → nt p (xs ++ ys)
  | [], _, _, _, h => h
  | _ :: _, _, _, h1, h2 => ⟨h1.1, nt_append h1.2 h2⟩
theorem lst_append : ∀ {xs ys : List Int} {p : Option Int}, lst p (xs ++ ys) = lst (lst p xs) ys
  | [], _, _ => rfl
  | x :: r, ys, _ => lst_append (xs := r) (ys := ys)
theorem nt_at : ∀ {xs : List Int} {p : Option Int} {i : Nat} {x y : Int}, nt p xs → xs[i]? = some x → xs[i + 1]? = some y → x ≠ y
  | a :: b :: r, _, 0, x, y, h, hx, hy => by
    cases hx
    cases hy
    exact fun z => h.2.1 (by rw [z])
  | a :: r, _, i + 1, x, y, h, hx, hy => nt_at (xs := r) h.2 hx hy
  | [_], _, 0, _, _, _, _, hy => by cases hy
theorem rot_head {xs : List Int} (h : 1 < xs.length) (hd : xs.Nodup) {y : Int} (hy : (rot xs)[0]? = some y) : xs[0]? ≠ some y := by
  have e1 : (rot xs)[0]? = xs[xs.length - 1]? := by
    unfold rot
    rw [List.append_assoc, List.getElem?_append_left (by rw [List.length_drop]; omega), List.getElem?_drop]
    rfl
  rw [e1] at hy
  intro z
  obtain ⟨h1, h2⟩ := List.getElem?_eq_some_iff.mp hy
  obtain ⟨h3, h4⟩ := List.getElem?_eq_some_iff.mp z
  exact List.pairwise_iff_getElem.mp hd 0 (xs.length - 1) h3 h1 (by omega) (by rw [h4, h2])
theorem turnD_head {e : Option Int} {xs : List Int} (h : 1 < xs.length) (hd : xs.Nodup) {y : Int} (hy : (turnD e xs)[0]? = some y) : e ≠ some y := by
  unfold turnD at hy
  split at hy
  · next hh =>
    rw [← hh.2]
    exact rot_head h hd hy
  · next hh =>
    intro z
    exact hh ⟨h, by rw [hy, z]⟩
/-- what is now is not in the deck -/
def RS.Inv (T : RS) : Prop := ∀ a ∈ T.S.deck, T.now ≠ some a
theorem RS.one {T : RS} (h : T.S.Go) (h2 : 2 ≤ T.S.q.turn.length) (hi : T.Inv) : ∃ x, T.stp.f = T.f ++ [x] ∧ T.stp.now = some x ∧ T.now ≠ some x ∧ T.stp.Inv := by
  obtain ⟨d1, d2, d3⟩ := h.dkp T.now
  cases hd : T.S.dk T.now with
  | nil => exact absurd hd d1
  | cons x r =>
    rw [hd] at d2
    refine ⟨x, by unfold RS.stp; rw [hd]; rfl, by unfold RS.stp; rw [hd]; rfl, ?_, ?_⟩
    · unfold OS.dk at hd
      split at hd
      · have hp := mixN_perm T.S.d T.S.q.turn
        exact turnD_head (xs := mixN T.S.d T.S.q.turn) (by rw [hp.length_eq]; omega) (hp.nodup_iff.mpr h.ok.nd) (by rw [hd]; rfl)
      · exact hi x (by rw [hd]; exact List.mem_cons_self)
    · intro a ha
      have ha' : a ∈ (T.S.dk T.now).tail := ha
      show (T.S.dk T.now).head? ≠ some a
      rw [hd] at ha' ⊢
      intro z
      have : x = a := by injection z
      exact (List.nodup_cons.mp d2).1 (this ▸ ha')
theorem RS.run {T : RS} (h : T.S.Go) (h2 : 2 ≤ T.S.q.turn.length) (hi : T.Inv) : ∀ n, ∃ g, (T.it n).f = T.f ++ g ∧ nt T.now g ∧ lst T.now g = (T.it n).now ∧ (T.it n).Inv
  | 0 => ⟨[], (List.append_nil _).symm, trivial, rfl, hi⟩
  | n + 1 => by
    obtain ⟨g, g1, g2, g3, g4⟩ := RS.run h h2 hi n
    obtain ⟨x, x1, x2, x3, x4⟩ := RS.one (T := T.it n) (RS.it_go h n) (by rw [RS.it_q]; exact h2) g4
    refine ⟨g ++ [x], ?_, nt_append g2 ?_, ?_, x4⟩
    · show (T.it n).stp.f = _
      rw [x1, g1, List.append_assoc]
    · rw [g3]
      exact ⟨x3, trivial⟩
    · rw [lst_append, g3]
      show some x = (T.it n).stp.now
      rw [x2]
/-- a whole round -/
theorem RS.whole {T : RS} (h : T.S.Go) : (T.it (T.S.dk T.now).length).S.deck = [] ∧ (T.it (T.S.dk T.now).length).now = (T.S.dk T.now)[(T.S.dk T.now).length - 1]? ∧ (T.it (T.S.dk T.now).length).f = T.f ++ T.S.dk T.now := by
  obtain ⟨d1, _, _⟩ := h.dkp T.now
  obtain ⟨n, hn⟩ : ∃ n, (T.S.dk T.now).length = n + 1 := by
    cases hd : T.S.dk T.now with
    | nil => exact absurd hd d1
    | cons x r => exact ⟨r.length, rfl⟩
  obtain ⟨e1, e2, e3⟩ := RS.it_dk h n (by omega)
  rw [hn]
  refine ⟨?_, e2, ?_⟩
  · rw [e1, List.drop_of_length_le (by omega)]
  · rw [e3, List.take_of_length_le (by omega)]
theorem dk_perm {S : OS} (h : S.Go) (hd : S.deck = []) (now : Option Int) : (S.dk now).Perm S.q.turn := by
  unfold OS.dk
  rw [if_pos hd]
  exact (turnD_perm now (mixN S.d S.q.turn)).trans (mixN_perm S.d S.q.turn)

end
end TR

set_option Elab.async false
set_option linter.all false
set_option maxRecDepth 100000
set_option maxHeartbeats 4000000
/-! .. -/

namespace TR
open PySem PySem.Spec PyProof.Rows L2
section
variable {P : Program} {w : World} {K : PySem.W.Frag} {mg : Str → Option Value} {base : Heap}
/-! ### the third round, begun -/
structure Third (S0 : OS) (S : OS) (now : Option Int) (F : List Int) (x : Int) : Prop where
  go : S.Go
  q : S.q = S0.q
  run : 2 ≤ S0.q.turn.length → (∀ a ∈ S.deck, now ≠ some a) ∧ nt (some x) F ∧ lst (some x) F = now ∧ ∀ e, e ∉ S0.q.turn → now ≠ some e
  cs : (F = [] ∧ S.deck = []) ∨ (F ≠ [] ∧ S.deck ≠ [] ∧ (F ++ S.deck).Perm S0.q.turn)
theorem lst_mem : ∀ {xs : List Int} {p : Option Int} {e : Int}, lst p xs = some e → p = some e ∨ e ∈ xs
  | [], _, _, h => .inl h
  | x :: r, _, e, h => by
    rcases lst_mem (xs := r) h with h | h
    · exact .inr (by rw [show x = e from by injection h]; exact List.mem_cons_self)
    · exact .inr (List.mem_cons_of_mem _ h)
theorem third {S0 S : OS} {x : Int} (hG : S.Go) (hq : S.q = S0.q) (hd : S.deck = []) (hx : x ∈ S0.q.turn) {j : Nat} (hj : j < S0.q.turn.length) :
    Third S0 ((RS.mk S (some x) []).it j).S ((RS.mk S (some x) []).it j).now ((RS.mk S (some x) []).it j).f x := by
  have hp := dk_perm hG hd (some x)
  have hl : (S.dk (some x)).length = S0.q.turn.length := by rw [hp.length_eq, hq]
  obtain ⟨g, hg⟩ : ∃ g, g = ((RS.mk S (some x) []).it j).f := ⟨_, rfl⟩
  have cs : (g = [] ∧ ((RS.mk S (some x) []).it j).S.deck = []) ∨ (g ≠ [] ∧ ((RS.mk S (some x) []).it j).S.deck ≠ [] ∧ (g ++ ((RS.mk S (some x) []).it j).S.deck).Perm S0.q.turn) := by
    cases j with
    | zero => exact .inl ⟨hg, hd⟩
    | succ i =>
      obtain ⟨e1, _, e3⟩ := RS.it_dk (T := RS.mk S (some x) []) hG i (by show i < (S.dk (some x)).length; omega)
      have e3' : g = (S.dk (some x)).take (i + 1) := hg.trans (e3.trans (List.nil_append _))
      have e1' : ((RS.mk S (some x) []).it (i + 1)).S.deck = (S.dk (some x)).drop (i + 1) := e1
      refine .inr ⟨?_, ?_, ?_⟩
      · intro z
        have := congrArg List.length (e3'.symm.trans z)
        rw [List.length_take] at this
        have h0 : ([] : List Int).length = 0 := rfl
        omega
      · intro z
        have := congrArg List.length (e1'.symm.trans z)
        rw [List.length_drop] at this
        have h0 : ([] : List Int).length = 0 := rfl
        omega
      · rw [e1', e3', List.take_append_drop, ← hq]
        exact hp
  refine ⟨RS.it_go (T := RS.mk S (some x) []) hG j, (RS.it_q (T := RS.mk S (some x) []) j).trans hq, fun h2 => ?_, by rw [← hg]; exact cs⟩
  obtain ⟨g', g1, g2, g3, g4⟩ := RS.run (T := RS.mk S (some x) []) hG (by show 2 ≤ S.q.turn.length; rw [hq]; exact h2) (fun a ha => by
    have ha' : a ∈ S.deck := ha
    rw [hd] at ha'
    cases ha') j
  have g1' : g = g' := hg.trans (g1.trans (List.nil_append g'))
  subst g1'
  refine ⟨g4, hg ▸ g2, by rw [← hg]; exact g3, ?_⟩
  intro e he z
  rw [← g3] at z
  rcases lst_mem z with h | h
  · exact he (by rw [← show x = e from by injection h]; exact hx)
  · rcases cs with ⟨h5, _⟩ | ⟨_, _, h5⟩
    · rw [h5] at h; cases h
    · exact he (h5.mem_iff.mp (List.mem_append_left _ h))
/-! ### the fourth state: behind a put, a remove, or none of them -/
structure Fourth (N : Nat) (S : OS) (now : Option Int) (F left : List Int) : Prop where
  go : S.Go
  run : 2 < N → 2 ≤ S.q.turn.length ∧ ∀ a ∈ S.deck, now ≠ some a
  prm : F ≠ [] → S.deck ≠ [] ∧ S.deck.Perm left
  ln : left.length ≤ 12
def leftOf (S : OS) (F : List Int) : List Int := S.q.turn.filter fun o => !decide (o ∈ F)
theorem left_perm {S : OS} {F : List Int} {t : List Int} (hn : t.Nodup) (hp : (F ++ S.deck).Perm t) : (t.filter fun o => !decide (o ∈ F)).Perm S.deck := by
  have hnd : (F ++ S.deck).Nodup := hp.nodup_iff.mpr hn
  refine (hp.symm.filter _).trans ?_
  rw [List.filter_append, List.filter_eq_nil_iff.mpr (fun a ha => by simp [ha]), List.nil_append, List.filter_eq_self.mpr fun a ha => ?_]
  have := (List.nodup_append.mp hnd).2.2
  have h : a ∉ F := fun z => this a z a ha rfl
  simp [h]
theorem fourth_same {S0 S : OS} {now : Option Int} {F : List Int} {x : Int} (h : Third S0 S now F x) (h0 : S0.Ok) : Fourth S0.q.turn.length S now F (leftOf S F) := by
  refine ⟨h.go, fun h2 => ⟨by rw [h.q]; omega, (h.run (by omega)).1⟩, fun hF => ?_, Nat.le_trans (List.length_filter_le _ _) h.go.ok.len⟩
  rcases h.cs with ⟨z, _⟩ | ⟨_, z, hp⟩
  · exact absurd z hF
  · exact ⟨z, by unfold leftOf; rw [h.q]; exact (left_perm h0.nd hp).symm⟩

end
end TR

set_option Elab.async false
set_option linter.all false
set_option maxRecDepth 100000
set_option maxHeartbeats 4000000
/-! .. -/

namespace TR
open PySem PySem.Spec PyProof.Rows L2
section
variable {P : Program} {w : World} {K : PySem.W.Frag} {mg : Str → Option Value} {base : Heap}
theorem fourth_put {S0 S : OS} {now : Option Int} {F : List Int} {x : Int} (h : Third S0 S now F x) (h0 : S0.Ok) {z : Str} {pl : Int} (o : okPut S.q pl) (ht : S.q.tunes.length < 1000) : Fourth S0.q.turn.length (S.put z pl.toNat) now F (leftOf (S.put z pl.toNat) F) := by
  have e : S.put z pl.toNat = ⟨S.q.put z pl.toNat, dnext S.d, true, S.ag, insAt S.deck (dval S.d ((S.deck.length : Nat) + 1)).toNat ((S.q.tunes.length : Nat) + 1), S.gone, S.beh⟩ := by
    unfold OS.put
    rw [h.go.mx]
  have ok := h.go.ok.put (z := z) o ht
  have fresh : ((S.q.tunes.length : Nat) : Int) + 1 ∉ S0.q.turn := fun q => by
    have := (h.go.ok.pos _ (by rw [h.q]; exact q)).2
    omega
  have hp := insAt_perm S.q.turn pl.toNat ((S.q.tunes.length : Nat) + 1)
  have hq := insAt_perm S.deck (dval S.d ((S.deck.length : Nat) + 1)).toNat ((S.q.tunes.length : Nat) + 1)
  have hlen : (insAt S.q.turn pl.toNat ((S.q.tunes.length : Nat) + 1)).length = S0.q.turn.length + 1 := by rw [hp.length_eq, List.length_cons, h.q]
  rw [e] at ok ⊢
  have ne : ∀ {xs ys : List Int} {y : Int}, xs.Perm (y :: ys) → xs ≠ [] := fun p q => by
    have := p.length_eq
    rw [q] at this
    cases this
  refine ⟨⟨ok, rfl, h.go.ag, ne hp⟩, fun h2 => ⟨by show 2 ≤ (insAt S.q.turn pl.toNat ((S.q.tunes.length : Nat) + 1)).length; omega, fun a ha => ?_⟩, fun hF => ⟨ne hq, ?_⟩, Nat.le_trans (List.length_filter_le _ _) ok.len⟩
  · obtain ⟨r1, _, _, r4⟩ := h.run (by omega)
    rcases List.mem_cons.mp (hq.mem_iff.mp ha) with rfl | ha
    · exact r4 _ fresh
    · exact r1 a ha
  · rcases h.cs with ⟨q, _⟩ | ⟨_, _, hc⟩
    · exact absurd q hF
    · have hF' : ((S.q.tunes.length : Nat) : Int) + 1 ∉ F := fun q => fresh (hc.mem_iff.mp (List.mem_append_left _ q))
      refine hq.trans ?_
      show List.Perm _ ((insAt S.q.turn pl.toNat ((S.q.tunes.length : Nat) + 1)).filter fun o => !decide (o ∈ F))
      refine List.Perm.trans ?_ (hp.symm.filter _)
      rw [List.filter_cons_of_pos (by simp [hF'])]
      refine List.Perm.cons _ ?_
      rw [h.q]
      exact (left_perm h0.nd hc).symm
theorem fourth_rem {S0 S : OS} {now now' : Option Int} {F : List Int} {x : Int} (h : Third S0 S now F x) (h0 : S0.Ok) {e : Int} {r : List Int} (hl : leftOf S F = e :: r) (hr : r ≠ []) : e ∈ S.q.turn ∧ Fourth S0.q.turn.length (S.remove e now') now F r := by
  have hnl : (leftOf S F).Nodup := List.Nodup.sublist List.filter_sublist h.go.ok.nd
  have hsub : ∀ a ∈ leftOf S F, a ∈ S.q.turn := fun a ha => (List.mem_filter.mp ha).1
  rw [hl] at hnl hsub
  have he := hsub e List.mem_cons_self
  have ok := h.go.ok.remove he now'
  have eq : S.q.remove e = ⟨wo e S.q.turn, S.q.tunes⟩ := by unfold QS.remove; rw [wo_rem h.go.ok.nd he]
  have e1 : (S.remove e now').q.turn = wo e S.q.turn := by
    unfold OS.remove
    split
    · rw [eq]
    · rw [eq]
  have e2 : (S.remove e now').deck = wo e S.deck := by
    unfold OS.remove
    split <;> rfl
  have e3 : (S.remove e now').mx = true ∧ (S.remove e now').ag = "all" := by
    unfold OS.remove
    split
    · exact ⟨h.go.mx, h.go.ag⟩
    · exact ⟨h.go.mx, h.go.ag⟩
  have hne := (List.nodup_cons.mp hnl).1
  have hin : ∀ a ∈ r, a ∈ wo e S.q.turn := fun a ha => mem_wo.mpr ⟨hsub a (List.mem_cons_of_mem _ ha), fun z => hne (z ▸ ha)⟩
  have hlen : (wo e S.q.turn).length + 1 = S0.q.turn.length := by
    rw [← wo_rem h.go.ok.nd he, List.length_eraseIdx_of_lt (List.idxOf_lt_length_of_mem he), ← h.q]
    have := List.length_pos_of_mem he
    omega
  refine ⟨he, ⟨ok, e3.1, e3.2, fun z => ?_⟩, fun h2 => ⟨by rw [e1]; omega, fun a ha => ?_⟩, fun hF => ?_, ?_⟩
  · rw [e1] at z
    cases r with
    | nil => exact hr rfl
    | cons b r =>
      have := hin b List.mem_cons_self
      rw [z] at this
      cases this
  · rw [e2] at ha
    exact (h.run (by omega)).1 a (mem_wo.mp ha).1
  · rcases h.cs with ⟨q, _⟩ | ⟨_, _, hc⟩
    · exact absurd q hF
    · have hp : (e :: r).Perm S.deck := by
        rw [← hl]
        unfold leftOf
        rw [h.q]
        exact left_perm h0.nd hc
      have hp2 : (wo e S.deck).Perm r := by
        refine (hp.symm.filter _).trans ?_
        show (wo e (e :: r)).Perm r
        have : wo e (e :: r) = wo e r := by unfold wo; simp
        rw [this, wo_not hne]
      rw [e2]
      refine ⟨fun z => ?_, hp2⟩
      have := hp2.length_eq
      rw [z] at this
      exact hr (List.length_eq_zero_iff.mp this.symm)
  · have := nodup_len (List.nodup_cons.mp hnl).2 hin
    have := h.go.ok.len
    rw [h.q] at this
    omega

end
end TR

set_option Elab.async false
set_option linter.all false
set_option maxRecDepth 100000
set_option maxHeartbeats 4000000
/-! .. -/

namespace TR
open PySem PySem.Spec PyProof.Rows L2
section
variable {P : Program} {w : World} {K : PySem.W.Frag} {mg : Str → Option Value} {base : Heap}
theorem rest_whole {S : OS} {now : Option Int} {left : List Int} (hG : S.Go) (hne : S.deck ≠ []) (hp : S.deck.Perm left) : ((RS.mk S now []).it left.length).S.deck = [] ∧ ((RS.mk S now []).it left.length).f.Perm left := by
  have w := RS.whole (T := RS.mk S now []) hG
  have e : (RS.mk S now []).S.dk (RS.mk S now []).now = S.deck := by
    show S.dk now = S.deck
    unfold OS.dk
    rw [if_neg hne]
  rw [e, hp.length_eq] at w
  refine ⟨w.1, ?_⟩
  rw [w.2.2]
  exact hp
/-- behind a round that is not repeated there is none -/
theorem skip_none {S : OS} (hm : S.mx = true) (hd : S.deck = []) (now : Option Int) : OS.skip { S with ag := "none" } now = ({ S with ag := "none" }, none) := by
  cases S with
  | mk q d mx ag deck gone beh =>
    dsimp only at hm hd
    subst hm hd
    show OS.nextM ⟨q, d, true, "none", [], gone, beh⟩ now = _
    unfold OS.nextM
    rw [if_neg (fun z => absurd (show ("none" : Str) = "all" from z.2) (by decide))]
    rfl
theorem both_nt {D1 D2 F G : List Int} {x1 x2 : Int} {now : Option Int} (h1 : nt none D1 ∧ lst none D1 = some x1) (h2 : nt (some x1) D2 ∧ lst (some x1) D2 = some x2) (h3 : nt (some x2) F ∧ lst (some x2) F = now) (h4 : nt now G) : nt none (D1 ++ D2 ++ F ++ G) := by
  refine nt_append (nt_append (nt_append h1.1 ?_) ?_) ?_
  · rw [h1.2]; exact h2.1
  · rw [lst_append, h1.2, h2.2]; exact h3.1
  · rw [lst_append, lst_append, h1.2, h2.2, h3.2]; exact h4

end
end TR

set_option Elab.async false
set_option linter.all false
set_option maxRecDepth 100000
set_option maxHeartbeats 4000000
/-! .. -/

namespace TR
open PySem PySem.Spec PyProof.Rows L2
section
variable {P : Program} {w : World} {K : PySem.W.Frag} {mg : Str → Option Value} {base : Heap}
def PS (s : Int) : Nat → OS
  | 0 => OS.new s
  | i + 1 => (PS s i).put "a" 0
structure PSok (S : OS) (i : Nat) : Prop where
  ok : S.Ok
  tl : S.q.turn.length = i
  nl : S.q.tunes.length = i
  mx : S.mx = false
theorem okPut0 {S : OS} {i : Nat} (h : PSok S i) (hi : i < 12) : okPut S.q 0 := ⟨by omega, by omega, by have := h.tl; omega⟩
theorem PS_ok {s : Int} (hs : okSeed s) : ∀ i, i ≤ 11 → PSok (PS s i) i
  | 0, _ => ⟨⟨List.nodup_nil, List.nodup_nil, fun _ z => (by cases z), fun _ z => (by cases z), Nat.zero_le _, Nat.zero_le _, hs, fun _ z => (by cases z)⟩, rfl, rfl, rfl⟩
  | i + 1, hi => by
    have h := PS_ok hs i (by omega)
    have ok := okPut0 h (by omega)
    have e : (PS s i).put "a" 0 = ⟨(PS s i).q.put "a" 0, (PS s i).d, false, (PS s i).ag, (PS s i).deck, (PS s i).gone, (PS s i).beh⟩ := by
      unfold OS.put
      rw [h.mx]
    have h2 := h.ok.put (z := "a") ok (by have := h.nl; omega)
    refine ⟨h2, ?_, ?_, ?_⟩
    · show ((PS s i).put "a" 0).q.turn.length = i + 1
      rw [e]
      show (insAt (PS s i).q.turn 0 _).length = i + 1
      rw [(insAt_perm _ _ _).length_eq, List.length_cons, h.tl]
    · show ((PS s i).put "a" 0).q.tunes.length = i + 1
      rw [OS.put_t, List.length_append, h.nl]
      rfl
    · show ((PS s i).put "a" 0).mx = false
      rw [e]
def S00 (s : Int) (N : Nat) : OS := OS.setMixed { PS s N with ag := "all" } true none
theorem S00_go {s : Int} {N : Nat} (hs : okSeed s) (h1 : 1 ≤ N) (hN : N ≤ 11) : (S00 s N).Go ∧ ((S00 s N).dk none).Perm (S00 s N).q.turn ∧ (S00 s N).q.turn.length = N ∧ (S00 s N).q.tunes.length = N := by
  have h := PS_ok hs N hN
  have hr : OS.rest { PS s N with ag := "all" } none = (PS s N).q.turn := List.filter_eq_self.mpr fun a _ => rfl
  have e : S00 s N = ⟨(PS s N).q, mixSd (PS s N).d (PS s N).q.turn, true, "all", mixN (PS s N).d (PS s N).q.turn, (PS s N).gone, (PS s N).beh⟩ := by
    unfold S00 OS.setMixed
    show (match true, (PS s N).mx with | true, false => _ | true, true => _ | false, _ => _) = _
    rw [h.mx]
    dsimp only
    rw [hr]
  have hp := mixN_perm (PS s N).d (PS s N).q.turn
  have ok : (S00 s N).Ok := (h.ok.again "all").setMixed true none
  have ht := h.tl
  have ne : (PS s N).q.turn ≠ [] := fun z => by rw [z] at ht; exact absurd ht (by show ¬ 0 = N; omega)
  rw [e] at ok ⊢
  refine ⟨⟨ok, rfl, rfl, ne⟩, ?_, h.tl, h.nl⟩
  unfold OS.dk
  dsimp only
  rw [if_neg (fun z => ne (List.length_eq_zero_iff.mp (by rw [← hp.length_eq, z] <;> rfl)))]
  exact hp
theorem atI_end {ns : List Int} {y : Int} (hy : ns[ns.length - 1]? = some y) : atI (ns.map V.int) (-1) = some (.int y) := by
  have h : 0 < ns.length := by
    have := (List.getElem?_eq_some_iff.mp hy).1
    omega
  have e : ixN (ns.map V.int).length (-1) = some (ns.length - 1) := by
    unfold ixN
    rw [if_neg (by decide), List.length_map, if_pos (by omega), show ((-1 : Int) + (ns.length : Nat)).toNat = ns.length - 1 by omega]
  unfold atI
  rw [e]
  show (ns.map V.int)[ns.length - 1]? = _
  rw [List.getElem?_map, hy] <;> rfl
theorem sorted_eq {xs ys as bs : List Int} (p : xs.Perm ys) (ha : as.Perm xs) (hb : bs.Perm ys) (sa : as.Pairwise (· ≤ ·)) (sb : bs.Pairwise (· ≤ ·)) : as = bs :=
  ((ha.trans p).trans hb.symm).eq_of_pairwise (fun _ _ _ _ h1 h2 => Int.le_antisymm h1 h2) sa sb
theorem phase {S : OS} {now : Option Int} {N : Nat} (hG : S.Go) (hp : (S.dk now).Perm S.q.turn) (hl : S.q.turn.length = N) (hi : ∀ a ∈ S.deck, now ≠ some a) : ∃ (S' : OS) (D : List Int) (x : Int), (RS.mk S now []).it N = ⟨S', some x, D⟩ ∧ S'.Go ∧ S'.q = S.q ∧ S'.deck = [] ∧ D.Perm S.q.turn ∧ D[D.length - 1]? = some x ∧ (2 ≤ N → nt now D ∧ lst now D = some x) := by
  have w := RS.whole (T := RS.mk S now []) hG
  have eN : (S.dk now).length = N := by rw [hp.length_eq, hl]
  have w1 : ((RS.mk S now []).it N).S.deck = [] := eN ▸ w.1
  have w2 : ((RS.mk S now []).it N).now = (S.dk now)[(S.dk now).length - 1]? := by
    have := w.2.1
    rw [show (RS.mk S now []).S.dk (RS.mk S now []).now = S.dk now from rfl] at this
    rw [eN] at this ⊢
    exact this
  have w3 : ((RS.mk S now []).it N).f = S.dk now := by
    have := w.2.2
    rw [show (RS.mk S now []).S.dk (RS.mk S now []).now = S.dk now from rfl, eN] at this
    rw [this]
    exact List.nil_append _
  have hg := RS.it_go (T := RS.mk S now []) hG N
  have hq := RS.it_q (T := RS.mk S now []) N
  have run := fun h2 => RS.run (T := RS.mk S now []) hG h2 hi N
  have hne : (S.dk now) ≠ [] := (hG.dkp now).1
  have hpos := List.length_pos_iff.mpr hne
  obtain ⟨x, hx⟩ : ∃ x, (S.dk now)[(S.dk now).length - 1]? = some x := ⟨_, List.getElem?_eq_getElem (by omega)⟩
  rw [hx] at w2
  cases hT : (RS.mk S now []).it N with
  | mk S' now' f' =>
    rw [hT] at w1 w2 w3 hg hq
    dsimp only at w1 w2 w3 hg hq
    subst w2 w3
    refine ⟨S', _, x, rfl, hg, hq, w1, hp, hx, fun h2 => ?_⟩
    obtain ⟨g, g1, g2, g3, _⟩ := run (by show 2 ≤ S.q.turn.length; omega)
    rw [hT] at g1 g3
    have g1' : S.dk now = g := g1.trans (List.nil_append _)
    rw [g1']
    exact ⟨g2, g3⟩
theorem sc_law : FnScope ["_law_script", "_law_town", "_law_order", "_law_many", "_law_k", "_law_first", "_law_second", "_law_both", "_law_now", "_law_third", "_law_way", "_law_left", "_law_rest", "_law_entry"] ["_law_script"] (defScope s_law) := ⟨rfl, rfl, rfl, by decide +kernel, rfl, by decide +kernel, by decide +kernel⟩
theorem ok_law (T : Top K mg) : OkD P w K mg base d_law 6 ["_law_script"] (sp_law K) := by
  refine okD (df_law T) sc_law (fun _ _ _ _ _ _ us hl => match us, hl with | [_], _ => rfl) ln_law (fun cdv A outer s H vs Q E hr h => ⟨_,
      pss_cons (ps_set (i := 1) sc_law.nd rfl (Or.inl rfl) (pe_lst pa_nil))
      (pss_cons (ps_set (i := 2) sc_law.nd rfl (Or.inl rfl) (px_make (ok_Order_init T) (hr.mono (by decide)) (mk_Order T) rfl (gl_Order T) (fun σ => paD σ) (pa_cons (px_call (ok_l_draw T) (hr.mono (by decide)) rfl (gl__law_draw T) (fun σ => paD σ) (pa_cons (pv 0) (pa_cons (pv 1) (pa_cons pe_int pa_nil)))) pa_nil)))
      (pss_cons (ps_set (i := 3) sc_law.nd rfl (Or.inl rfl) (pe_op op_addA pe_int (px_call (ok_l_draw T) (hr.mono (by decide)) rfl (gl__law_draw T) (fun σ => paD σ) (pa_cons (pv 0) (pa_cons (pv 1) (pa_cons pe_int pa_nil))))))
      (pss_cons (ps_for (passes_of rfl) rfl (pi_range1 rfl (fr_range T) (pa_cons (pv 3) pa_nil)) (pg_name (i := 4) sc_law.nd rfl (Or.inl rfl))
       (pss_one (ps_expr (px_meth (ok_Order_put T) (hr.mono (by decide)) (pv 2) (cl_Order T) (me_Order_put T) (fun σ => paD σ) (pa_cons pe_str (pa_cons pe_int pa_nil))))))
      (pss_cons (ps_expr (px_meth (ok_Order_set_again T) (hr.mono (by decide)) (pv 2) (cl_Order T) (me_Order_set_again T) (fun σ => paD σ) (pa_cons pe_str pa_nil)))
      (pss_cons (ps_expr (px_meth (ok_Order_set_mixed T) (hr.mono (by decide)) (pv 2) (cl_Order T) (me_Order_set_mixed T) (fun σ => paD σ) (pa_cons pe_bl (pa_cons pe_non pa_nil))))
      (pss_cons (ps_set (i := 5) sc_law.nd rfl (Or.inl rfl) (px_call (ok_l_round T) (hr.mono (by decide)) rfl (gl__law_round T) (fun σ => paD σ) (pa_cons (pv 2) (pa_cons pe_non pa_nil))))
      (pss_cons (ps_set (i := 6) sc_law.nd rfl (Or.inl rfl) (px_call (ok_l_round T) (hr.mono (by decide)) rfl (gl__law_round T) (fun σ => paD σ) (pa_cons (pv 2) (pa_cons (pe_ix ix_seq (pv 5) (pe_un un_neg pe_int) (fun _ _ => rfl)) pa_nil))))
      (pss_cons (ps_if (PW.pt (pw_or (pt_cmpR (op_neA hr.units) (pe_callB cr_sorted (by rfl) (fr_sorted T) (by decide +kernel) (pa_cons (pv 5) pa_nil)) (pe_callB cr_sorted (by rfl) (fr_sorted T) (by decide +kernel) (pa_cons (px_meth0 (ok_Queue_entries T) (hr.mono (by decide)) (pe_fld (pv 2) rfl) (cl_Queue T) (me_Queue_entries T) (fun σ => paD σ)) pa_nil)) (nomark _)) (pw_or1 (pt_cmpR (op_neA hr.units) (pe_callB cr_sorted (by rfl) (fr_sorted T) (by decide +kernel) (pa_cons (pv 6) pa_nil)) (pe_callB cr_sorted (by rfl) (fr_sorted T) (by decide +kernel) (pa_cons (pv 5) pa_nil)) (nomark _)))))
       (pss_one (ps_ret pe_bl))
       (pss_nil))
      (pss_cons (ps_set (i := 7) sc_law.nd rfl (Or.inr rfl) (pe_op op_addA (pv 5) (pv 6)))
      (pss_cons (ps_set (i := 8) sc_law.nd rfl (Or.inl rfl) (pe_ix ix_seq (pv 6) (pe_un un_neg pe_int) (fun _ _ => rfl)))
      (pss_cons (ps_set (i := 9) sc_law.nd rfl (Or.inr rfl) (pe_lst pa_nil))
      (pss_cons (ps_for (passes_of rfl) rfl (pi_range1 rfl (fr_range T) (pa_cons (px_call (ok_l_draw T) (hr.mono (by decide)) rfl (gl__law_draw T) (fun σ => paD σ) (pa_cons (pv 0) (pa_cons (pv 1) (pa_cons (pv 3) pa_nil)))) pa_nil)) (pg_name (i := 4) sc_law.nd rfl (Or.inl rfl))
       (pss_cons (ps_set (i := 8) sc_law.nd rfl (Or.inl rfl) (px_meth (ok_Order_skip T) (hr.mono (by decide)) (pv 2) (cl_Order T) (me_Order_skip T) (fun σ => paD σ) (pa_cons (pv 8) pa_nil)))
        (pss_cons (ps_expr (px_meth (ok_Order_began T) (hr.mono (by decide)) (pv 2) (cl_Order T) (me_Order_began T) (fun σ => paD σ) (pa_cons (pv 8) pa_nil)))
        (pss_one (ps_expr (pe_bm PySem.F.plainAttrs_list PySem.F.slot_list_append PySem.F.type_list_append mt_append (pv 9) (pa_cons (pv 8) pa_nil)))))))
      (pss_cons (ps_set (i := 10) sc_law.nd rfl (Or.inl rfl) (px_call (ok_l_draw T) (hr.mono (by decide)) rfl (gl__law_draw T) (fun σ => paD σ) (pa_cons (pv 0) (pa_cons (pv 1) (pa_cons pe_int pa_nil)))))
      (pss_cons (ps_if (pt_cmpR (op_eqA hr.units) (pv 10) pe_int (nomark _))
       (pss_one (ps_expr (px_meth (ok_Order_put T) (hr.mono (by decide)) (pv 2) (cl_Order T) (me_Order_put T) (fun σ => paD σ) (pa_cons pe_str (pa_cons (px_call (ok_l_draw T) (hr.mono (by decide)) rfl (gl__law_draw T) (fun σ => paD σ) (pa_cons (pv 0) (pa_cons (pv 1) (pa_cons (pe_op op_addA (pv 3) pe_int) pa_nil)))) pa_nil)))))
       (pss_nil))
      (pss_cons (ps_setLc (i := 11) (own := [("_law_entry", 13)]) (g := gName 13) (by rfl) sc_law.nd rfl rfl (sw_true rfl rfl rfl (by decide +kernel)) (pi_list (px_meth0 (ok_Queue_entries T) (hr.mono (by decide)) (pe_fld (pv 2) rfl) (cl_Queue T) (me_Queue_entries T) (fun σ => paD σ))) (blkOk_by (own := [("_law_entry", 13)]) (N := ["_law_script", "_law_town", "_law_order", "_law_many", "_law_k", "_law_first", "_law_second", "_law_both", "_law_now", "_law_third", "_law_way", "_law_left", "_law_rest", "_law_entry"]) (sc := defScope s_law) (by decide +kernel)) (fun _ _ _ _ _ => pg_name (i := 13) sc_law.nd rfl (Or.inl rfl)) (fun _ _ _ _ _ => pts_one (pt_cmpR (show OpR _ _ (rIn K true) from op_notIn_seq) (pv 13) (pv 9) (by rfl))) (fun _ _ _ _ _ => pv 13))
      (pss_cons (ps_if (PW.pt (pw_and (pt_cmpR (op_eqA hr.units) (pv 10) pe_int (nomark _)) (pw_and1 (pt_cmpR op_gt (pe_callB call_lenA (by rfl) (fr_len T) (by decide +kernel) (pa_cons (pv 11) pa_nil)) pe_int (nomark _)))))
       (pss_cons (ps_expr (px_meth (ok_Order_remove T) (hr.mono (by decide)) (pv 2) (cl_Order T) (me_Order_remove T) (fun σ => paD σ) (pa_cons (pe_ix ix_seq (pv 11) pe_int (fun _ _ => rfl)) (pa_cons (pv 8) pa_nil))))
        (pss_one (ps_set (i := 11) sc_law.nd rfl (Or.inl rfl) (pe_slice sl_list (pv 11) (po_some pe_int) po_none))))
       (pss_nil))
      (pss_cons (ps_set (i := 12) sc_law.nd rfl (Or.inl rfl) (pe_lst pa_nil))
      (pss_cons (ps_for (passes_of rfl) rfl (pi_range1 rfl (fr_range T) (pa_cons (pe_callB call_lenA (by rfl) (fr_len T) (by decide +kernel) (pa_cons (pv 11) pa_nil)) pa_nil)) (pg_name (i := 4) sc_law.nd rfl (Or.inl rfl))
       (pss_cons (ps_set (i := 8) sc_law.nd rfl (Or.inl rfl) (px_meth (ok_Order_skip T) (hr.mono (by decide)) (pv 2) (cl_Order T) (me_Order_skip T) (fun σ => paD σ) (pa_cons (pv 8) pa_nil)))
        (pss_cons (ps_expr (px_meth (ok_Order_began T) (hr.mono (by decide)) (pv 2) (cl_Order T) (me_Order_began T) (fun σ => paD σ) (pa_cons (pv 8) pa_nil)))
        (pss_one (ps_expr (pe_bm PySem.F.plainAttrs_list PySem.F.slot_list_append PySem.F.type_list_append mt_append (pv 12) (pa_cons (pv 8) pa_nil)))))))
      (pss_cons (ps_if (PW.pt (pw_and (pt_cmpR (op_neA hr.units) (pv 9) (pe_lst pa_nil) (nomark _)) (pw_and1 (pt_cmpR (op_neA hr.units) (pe_callB cr_sorted (by rfl) (fr_sorted T) (by decide +kernel) (pa_cons (pv 12) pa_nil)) (pe_callB cr_sorted (by rfl) (fr_sorted T) (by decide +kernel) (pa_cons (pv 11) pa_nil)) (nomark _)))))
       (pss_one (ps_ret pe_bl))
       (pss_nil))
      (pss_cons (ps_set (i := 7) sc_law.nd rfl (Or.inr rfl) (pe_op op_addA (pe_op op_addA (pv 7) (pv 9)) (pv 12)))
      (pss_cons (ps_if (PW.pt (pw_and (pt_cmpR op_gt (pv 3) pe_int (nomark _)) (pw_and1 (pt_cmpR (op_neA hr.units) (pe_lc (own := [("_law_k", 4)]) (g := gName 4) (by rfl) sc_law.nd (pi_range1 rfl (fr_range T) (pa_cons (pe_op op_sub (pe_callB call_lenA (by rfl) (fr_len T) (by decide +kernel) (pa_cons (pv 7) pa_nil)) pe_int) pa_nil)) (blkOk_by (own := [("_law_k", 4)]) (N := ["_law_script", "_law_town", "_law_order", "_law_many", "_law_k", "_law_first", "_law_second", "_law_both", "_law_now", "_law_third", "_law_way", "_law_left", "_law_rest", "_law_entry"]) (sc := defScope s_law) (by decide +kernel)) (fun _ _ _ _ _ => pg_name (i := 4) sc_law.nd rfl (Or.inl rfl)) (fun _ _ _ _ _ => pts_one (pt_cmpR op_eq (pe_ix (show IxR _ (rIx K) from ix_seq) (pv 7) (pv 4) (fun _ _ => rfl)) (pe_ix (show IxR _ (rIx K) from ix_seq) (pv 7) (pe_op op_add (pv 4) pe_int) (fun _ _ => rfl)) (nomark _))) (fun _ _ _ _ _ => pv 4)) (pe_lst pa_nil) (nomark _)))))
       (pss_one (ps_ret pe_bl))
       (pss_nil))
      (pss_cons (ps_expr (px_meth (ok_Order_set_again T) (hr.mono (by decide)) (pv 2) (cl_Order T) (me_Order_set_again T) (fun σ => paD σ) (pa_cons pe_str pa_nil)))
      (pss_one (ps_ret (pe_or (pe_cmpR (op_eqA hr.units) (pv 9) (pe_lst pa_nil) (nomark _)) (pe_one (pe_cmpR op_isN1 (px_meth (ok_Order_skip T) (hr.mono (by decide)) (pv 2) (cl_Order T) (me_Order_skip T) (fun σ => paD σ) (pa_cons (pv 8) pa_nil)) pe_non (nomark _)))))))))))))))))))))))))))), ?_⟩)
  obtain ⟨a, ns, rfl, hS, h1⟩ := h
  walk_at "go"
  rename Addr => t0
  replace hS : Sep (TownA t0 0 :: [ScrA K a ns]) H := hS
  refine draw_use (by decide) (by omega) (hS.own2 a t0) fun sd H hsd hS => ?_
  have hsd' : okSeed (sd : Int) := ⟨by omega, hsd⟩
  walk_at "s"
  refine y_mk hS fun o dx H hS => ?_
  refine ⟨o, dx, sd, _, rfl, hS.own o, fun _ H hS => ?_, fun no => absurd hsd' no⟩
  walk_at "s"
  refine draw_use (by decide) (by omega) (hS.own2 a t0) fun d1 H hd1 hS => ?_
  walk_at "s"
  obtain ⟨N, hN⟩ : ∃ N : Nat, N = 1 + d1 := ⟨_, rfl⟩
  rw [show (1 : Int) + (d1 : Int) = ((N : Nat) : Int) by omega]
  refine y_for1 (n := N) (fun i σ H => ∃ (b4 : Option V), σ = [some (.ref a), some (.ref t0), some (.ref o), some (.int (N : Nat)), b4, none, none, none, none, none, none, none, none, none] ∧ Sep [ScrA K a ns, TownA t0 2, OrderR K o (PS sd i)] H)
    (by omega) ⟨none, rfl, (hS.of (by repeat (first | exact En.refl | exact En.nil | refine En.cons ?_ | refine En.drop ?_)))⟩ ?_ ?_
  · rintro i σ H hi ⟨b4, rfl, hS⟩
    have hP := PS_ok hsd' i (by omega)
    walk_at "s"
    refine ⟨o, "a", 0, PS sd i, _, rfl, hP.ok, hS.own o, fun _ H hS => ?_, fun no => absurd (okPut0 hP (by omega)) no⟩
    walk_at "s"
    exact ⟨_, rfl, show Sep [ScrA K a ns, TownA t0 2, OrderR K o ((PS sd i).put "a" (0 : Int).toNat)] H from (hS.of (by repeat (first | exact En.refl | exact En.nil | refine En.cons ?_ | refine En.drop ?_)))⟩
  · rintro σ H ⟨b4, rfl, hS⟩
    have hP := PS_ok hsd' N (by omega)
    walk_at "s"
    refine ⟨o, "all", PS sd N, _, rfl, hS.own o, fun _ H hS => ?_, fun no => absurd (show okWord "all" from .inr (.inl rfl)) no⟩
    walk_at "s"
    refine ⟨o, true, none, { PS sd N with ag := "all" }, _, rfl, hP.ok.again "all", hS.own o, fun H hS => ?_⟩
    obtain ⟨hG0, hp0, hl0, hn0⟩ := S00_go hsd' (N := N) (by omega) (by omega)
    replace hS : Sep (OrderR K o (S00 sd N) :: [ScrA K a ns, TownA t0 2]) H := (hS.of (by repeat (first | exact En.refl | exact En.nil | refine En.cons ?_ | refine En.drop ?_)))
    generalize S00 sd N = S0 at hG0 hp0 hl0 hn0 hS
    walk_at "s"
    refine ⟨o, none, S0, _, rfl, hG0, hS.own o, fun l1 H hS => ?_⟩
    obtain ⟨S1, D1, x1, eT1, hG1, hq1, hd1', hp1, hx1, hn1⟩ := phase hG0 hp0 rfl (fun a _ z => by cases z)
    rw [eT1] at hS
    dsimp only at hS
    rw [hl0] at hn1
    walk_at "s"
    refine x_ixL (sqL hS) (atI_end hx1) ?_
    walk_at "s"
    refine ⟨o, some x1, S1, _, rfl, hG1, hS.own o, fun l2 H hS => ?_⟩
    obtain ⟨S2, D2, x2, eT2, hG2, hq2, hd2', hp2, hx2, hn2⟩ := phase hG1 (dk_perm hG1 hd1' (some x1)) rfl (fun a ha => by rw [hd1'] at ha; cases ha)
    rw [eT2] at hS
    dsimp only at hS
    rw [hq1] at hp2 hn2 hq2
    rw [hl0] at hn2
    have hlen1 : D1.length = N := by rw [hp1.length_eq, hl0]
    have hlen2 : D2.length = N := by rw [hp2.length_eq, hl0]
    walk_at "s"
    refine x_sorted (ns := D1) hS (sqL hS) (by omega) fun s1 m1 H sp1 ss1 hS => ?_
    walk_at "s"
    obtain ⟨dx, q, c, k, hS⟩ := (hS.own o).opO
    walk_at "s"
    refine ⟨q, S2.q, _, rfl, hS.own q, fun m2 H hS => ?_⟩
    rw [hq2] at hS
    walk_at "s"
    refine x_sorted (ns := S0.q.turn) hS (sqL hS) (by omega) fun s2 m3 H sp2 ss2 hS => ?_
    have es : s1 = s2 := sorted_eq hp1 sp1 sp2 ss1 ss2
    subst es
    walk_at "s"
    refine x_neD (dp_ints (ns := s1) (sqL hS)) (dp_ints (ns := s1) (sqL hS)) (shaped_ints s1) (shaped_ints s1) ?_
    rw [eqv_of (shaped_ints s1)]
    walk_at "s"
    refine x_sorted (ns := D2) hS (sqL hS) (by omega) fun s3 m4 H sp3 ss3 hS => ?_
    walk_at "s"
    refine x_sorted (ns := D1) hS (sqL hS) (by omega) fun s4 m5 H sp4 ss4 hS => ?_
    have es : s3 = s4 := sorted_eq (hp2.trans hp1.symm) sp3 sp4 ss3 ss4
    subst es
    walk_at "s"
    refine x_neD (dp_ints (ns := s3) (sqL hS)) (dp_ints (ns := s3) (sqL hS)) (shaped_ints s3) (shaped_ints s3) ?_
    rw [eqv_of (shaped_ints s3)]
    walk_at "s"
    refine x_cat hS (by rw [List.length_map, List.length_map]; exact sz' (by omega)) fun l3 H hS => ?_
    rw [← List.map_append] at hS
    walk_at "s"
    refine x_ixL (sqL hS) (atI_end hx2) ?_
    walk_at "s"
    rename Addr => f3
    rw [← hq2] at hS
    have hS : Sep (OrderR K o S2 :: ScrA K a ns :: TownA t0 2 :: pt l3 (.lst ((D1 ++ D2).map V.int)) :: pt f3 (.lst []) :: []) H := (Sep.clO' (S2) dx q c k hS (by (try simp only [List.map_nil]); repeat (first | exact En.refl | exact En.nil | refine En.cons ?_ | refine En.drop ?_)))
    refine draw_use (by omega) (by omega) (hS.own2 a t0) fun j H hj hS => ?_
    refine y_for1 (fun i σ H => ∃ (b4 : Option V), σ = [some (.ref a), some (.ref t0), some (.ref o), some (.int (N : Nat)), b4, some (.ref l1), some (.ref l2), some (.ref l3), some (oV ((RS.mk S2 (some x2) []).it i).now), some (.ref f3), none, none, none, none] ∧
        Sep [OrderR K o ((RS.mk S2 (some x2) []).it i).S, pt f3 (.lst (((RS.mk S2 (some x2) []).it i).f.map V.int)), pt l3 (.lst ((D1 ++ D2).map V.int)), ScrA K a ns, TownA t0 (2 + 1)] H)
      (by omega) ⟨_, rfl, show Sep [OrderR K o S2, pt f3 (.lst []), pt l3 (.lst ((D1 ++ D2).map V.int)), ScrA K a ns, TownA t0 (2 + 1)] _ from (hS.of (by repeat (first | exact En.refl | exact En.nil | refine En.cons ?_ | refine En.drop ?_)))⟩ ?_ ?_
    · rintro i σ H hi ⟨b4, rfl, hS⟩
      have hlen := RS.it_len (T := RS.mk S2 (some x2) []) hG2 i
      have hGi := RS.it_go (T := RS.mk S2 (some x2) []) hG2 i
      obtain ⟨T, hT⟩ : ∃ T, T = (RS.mk S2 (some x2) []).it i := ⟨_, rfl⟩
      have e1 : (RS.mk S2 (some x2) []).it (i + 1) = T.stp := by rw [hT]; rfl
      rw [e1]
      rw [← hT] at hS hGi hlen ⊢
      obtain ⟨x, r, hd, hs1, hs2⟩ := hGi.step T.now
      walk_at "s"
      refine ⟨o, T.now, T.S, _, rfl, hGi.ok, hS, fun H hS => ?_⟩
      rw [hs1] at hS ⊢
      walk_at "s"
      refine ⟨o, x, _, _, rfl, ?_, hS, fun H hS => ?_⟩
      · have := hGi.ok.skip T.now
        rw [hs1] at this
        exact this
      rw [hs2] at hS
      walk_at "s"
      refine y_bml (sqL hS) ?_
      walk_at "s"
      refine x_append hS (by rw [List.length_map, hlen]; exact sz (by show [].length + i ≤ _; rw [List.length_nil]; omega)) fun H hS => ?_
      walk_at "s"
      have e2 : T.stp = ⟨T.S.nx T.now, some x, T.f ++ [x]⟩ := by
        unfold RS.stp
        rw [hd]
        rfl
      rw [e2]
      have e3 : T.f.map V.int ++ [oV (some x)] = (T.f ++ [x]).map V.int := by rw [List.map_append] <;> rfl
      rw [e3] at hS
      exact ⟨_, rfl, (hS.of (by repeat (first | exact En.refl | exact En.nil | refine En.cons ?_ | refine En.drop ?_)))⟩
    · rintro σ H ⟨b4, rfl, hS⟩
      walk_at "s"
      have hx2m : x2 ∈ S0.q.turn := hp2.mem_iff.mp (List.mem_of_getElem? hx2)
      have h3 := third (S0 := S0) hG2 hq2 hd2' hx2m (j := j) (by omega)
      have hlen3 := RS.it_len (T := RS.mk S2 (some x2) []) hG2 j
      generalize (RS.mk S2 (some x2) []).it j = T at hS h3 hlen3 ⊢
      refine draw_use (by decide) (by omega) (hS.own2 a t0) fun way H hway hS => ?_
      walk_at "w"
      refine y_cut (fun σ H => ∃ (S4 : OS) (n : Nat), σ = [some (.ref a), some (.ref t0), some (.ref o), some (.int (N : Nat)), b4, some (.ref l1), some (.ref l2), some (.ref l3), some (oV T.now), some (.ref f3), some (.int (way : Nat)), none, none, none] ∧
          n ≤ 10 ∧ Fourth N S4 T.now T.f (leftOf S4 T.f) ∧ ((way : Int) ≠ 0 → S4 = T.S) ∧ Sep [OrderR K o S4, pt f3 (.lst (T.f.map V.int)), pt l3 (.lst ((D1 ++ D2).map V.int)), ScrA K a ns, TownA t0 n] H) (fun N' hN' => ?_) ?_
      · walk_at "s"
        refine x_dec (fun hA => ?_) (fun hA => ?_)
        · walk_at "s"
          rw [show ((N : Nat) : Int) + 1 = ((N + 1 : Nat) : Int) by omega]
          refine draw_use (by omega) (by omega) (hS.own2 a t0) fun pl H hpl hS => ?_
          have okp : okPut T.S.q (pl : Int) := ⟨by omega, by rw [h3.q]; omega, by rw [h3.q]; omega⟩
          have h4 := fourth_put h3 hG0.ok (z := "b") okp (by rw [h3.q, hn0]; omega)
          rw [hl0] at h4
          walk_at "s"
          refine ⟨o, "b", pl, T.S, _, rfl, h3.go.ok, hS.own o, fun _ H hS => ?_, fun no => absurd okp no⟩
          walk_at "s"
          exact hN' _ _ ⟨_, 2 + 1 + 1 + 1, rfl, by decide, h4, fun h => absurd hA h, (hS.of (by repeat (first | exact En.refl | exact En.nil | refine En.cons ?_ | refine En.drop ?_)))⟩
        · have h4 := fourth_same h3 hG0.ok
          rw [hl0] at h4
          walk_at "s"
          exact hN' _ _ ⟨_, 2 + 1 + 1, rfl, by decide, h4, fun _ => rfl, (hS.of (by repeat (first | exact En.refl | exact En.nil | refine En.cons ?_ | refine En.drop ?_)))⟩
      · rintro σ H ⟨S4, n4, rfl, hn4, h4, hsame, hS⟩
        walk_at "s"
        obtain ⟨dx, q, c, k, hS⟩ := (hS.own o).opO
        walk_at "s"
        refine ⟨q, _, _, rfl, hS.own q, fun m2 H hS => ?_⟩
        walk_at "s"
        refine y_lcF (fun o => !decide (o ∈ T.f)) hS (by have := h4.go.ok.len; omega) (fun D acc x H hl hS => ?_) (fun l4 H hS => ?_)
        · walk_at "s"
          refine x_ninI (sqL hS) ?_
          walk_at "s"
          refine x_ndec (fun hn => ?_) (fun hy => ?_)
          · walk_at "s"
            refine y_el hS (by rw [List.length_map]; omega) fun H hS => ?_
            rw [if_pos (by rw [decide_eq_false hn] <;> rfl), List.map_append]
            exact hS
          · rw [if_neg (by rw [decide_eq_true hy]; intro z; cases z)]
            exact hS
        · replace hS : Sep (pt l4 (.lst ((leftOf S4 T.f).map V.int)) :: _) H := hS
          have hS : Sep (OrderR K o S4 :: pt l4 (.lst ((leftOf S4 T.f).map V.int)) :: pt f3 (.lst (T.f.map V.int)) :: pt l3 (.lst ((D1 ++ D2).map V.int)) :: ScrA K a ns :: TownA t0 n4 :: []) H := (Sep.clO' (S4) dx q c k hS (by (try simp only [List.map_nil]); repeat (first | exact En.refl | exact En.nil | refine En.cons ?_ | refine En.drop ?_)))
          walk_at "w"
          refine y_cut (fun σ H => ∃ (S5 : OS) (l5 : Addr) (left : List Int) (b4 : Option V), σ = [some (.ref a), some (.ref t0), some (.ref o), some (.int (N : Nat)), b4, some (.ref l1), some (.ref l2), some (.ref l3), some (oV T.now), some (.ref f3), some (.int (way : Nat)), some (.ref l5), none, none] ∧
              Fourth N S5 T.now T.f left ∧ Sep [OrderR K o S5, pt l5 (.lst (left.map V.int)), pt f3 (.lst (T.f.map V.int)), pt l3 (.lst ((D1 ++ D2).map V.int)), ScrA K a ns, TownA t0 n4] H) (fun N' hN' => ?_) ?_
          · walk_at "s"
            refine x_dec (fun hw => ?_) (fun hw => ?_)
            · walk_at "s"
              refine x_lenL (sqL hS) ?_
              rw [List.length_map]
              walk_at "s"
              refine x_dec (fun hw2 => ?_) (fun hw2 => ?_)
              · obtain ⟨e, r, hlr⟩ : ∃ e r, leftOf S4 T.f = e :: r := by
                  cases hz : leftOf S4 T.f with
                  | nil => rw [hz] at hw2; exact absurd hw2 (by decide)
                  | cons e r => exact ⟨e, r, rfl⟩
                have hrne : r ≠ [] := fun z => by rw [hlr, z] at hw2; exact absurd hw2 (by show ¬ (1 : Int) < ((1 : Nat) : Int); decide)
                have hS4 := hsame (by omega)
                subst hS4
                obtain ⟨he, h5⟩ := fourth_rem (now' := T.now) h3 hG0.ok hlr hrne
                rw [hl0] at h5
                rw [hlr] at hS
                walk_at "s"
                refine x_ixL (sqL hS) (atI_nat (j := 0) (v := .int e) rfl) ?_
                walk_at "s"
                refine ⟨o, e, T.now, T.S, _, rfl, h3.go.ok, hS.own o, fun _ H hS => ?_, fun no => absurd he no⟩
                walk_at "s"
                refine x_slL hS (sqL hS) fun l5 H hS => ?_
                rw [show ((1 : Int)) = ((1 : Nat) : Int) from rfl, cut_from] at hS
                replace hS : Sep (pt l5 (.lst (r.map V.int)) :: _) H := hS
                walk_at "s"
                exact hN' _ _ ⟨_, _, _, _, rfl, h5, (hS.of (by repeat (first | exact En.refl | exact En.nil | refine En.cons ?_ | refine En.drop ?_)))⟩
              · walk_at "s"
                exact hN' _ _ ⟨_, _, _, _, rfl, h4, (hS.of (by repeat (first | exact En.refl | exact En.nil | refine En.cons ?_ | refine En.drop ?_)))⟩
            · walk_at "s"
              exact hN' _ _ ⟨_, _, _, _, rfl, h4, (hS.of (by repeat (first | exact En.refl | exact En.nil | refine En.cons ?_ | refine En.drop ?_)))⟩
          · rintro σ H ⟨S5, l5, left, b4, rfl, h5, hS⟩
            clear h4 hsame
            walk_at "s"
            rename Addr => f5
            refine x_lenL (sqL hS) ?_
            rw [List.length_map]
            walk_at "s"
            have hln := h5.ln
            have hS : Sep [OrderR K o ((RS.mk S5 T.now []).it 0).S, pt f5 (.lst (((RS.mk S5 T.now []).it 0).f.map V.int)), pt l5 (.lst (left.map V.int)), pt f3 (.lst (T.f.map V.int)), pt l3 (.lst ((D1 ++ D2).map V.int))] _ := show Sep [OrderR K o S5, pt f5 (.lst []), pt l5 (.lst (left.map V.int)), pt f3 (.lst (T.f.map V.int)), pt l3 (.lst ((D1 ++ D2).map V.int))] _ from (hS.of (by repeat (first | exact En.refl | exact En.nil | refine En.cons ?_ | refine En.drop ?_)))
            refine y_for1 (n := left.length) (fun i σ H => ∃ (b4 : Option V), σ = [some (.ref a), some (.ref t0), some (.ref o), some (.int (N : Nat)), b4, some (.ref l1), some (.ref l2), some (.ref l3), some (oV ((RS.mk S5 T.now []).it i).now), some (.ref f3), some (.int (way : Nat)), some (.ref l5), some (.ref f5), none] ∧
                Sep [OrderR K o ((RS.mk S5 T.now []).it i).S, pt f5 (.lst (((RS.mk S5 T.now []).it i).f.map V.int)), pt l5 (.lst (left.map V.int)), pt f3 (.lst (T.f.map V.int)), pt l3 (.lst ((D1 ++ D2).map V.int))] H)
              (by omega) ⟨_, rfl, hS⟩ ?_ ?_
            · rintro i σ H hi ⟨b4, rfl, hS⟩
              have hlen := RS.it_len (T := RS.mk S5 T.now []) h5.go i
              have hGi := RS.it_go (T := RS.mk S5 T.now []) h5.go i
              obtain ⟨U, hU⟩ : ∃ U, U = (RS.mk S5 T.now []).it i := ⟨_, rfl⟩
              have e1 : (RS.mk S5 T.now []).it (i + 1) = U.stp := by rw [hU]; rfl
              rw [e1]
              rw [← hU] at hS hGi hlen ⊢
              obtain ⟨x, r, hd, hs1, hs2⟩ := hGi.step U.now
              walk_at "s"
              refine ⟨o, U.now, U.S, _, rfl, hGi.ok, hS, fun H hS => ?_⟩
              rw [hs1] at hS ⊢
              walk_at "s"
              refine ⟨o, x, _, _, rfl, ?_, hS, fun H hS => ?_⟩
              · have := hGi.ok.skip U.now
                rw [hs1] at this
                exact this
              rw [hs2] at hS
              walk_at "s"
              refine y_bml (sqL hS) ?_
              walk_at "s"
              refine x_append hS (by rw [List.length_map, hlen]; exact sz (by show [].length + i ≤ _; rw [List.length_nil]; omega)) fun H hS => ?_
              walk_at "s"
              have e2 : U.stp = ⟨U.S.nx U.now, some x, U.f ++ [x]⟩ := by
                unfold RS.stp
                rw [hd]
                rfl
              rw [e2]
              have e3 : U.f.map V.int ++ [oV (some x)] = (U.f ++ [x]).map V.int := by rw [List.map_append] <;> rfl
              rw [e3] at hS
              exact ⟨_, rfl, (hS.of (by repeat (first | exact En.refl | exact En.nil | refine En.cons ?_ | refine En.drop ?_)))⟩
            · rintro σ H ⟨b4, rfl, hS⟩
              have hUl := RS.it_len (T := RS.mk S5 T.now []) h5.go left.length
              have hUg := RS.it_go (T := RS.mk S5 T.now []) h5.go left.length
              have rW : T.f ≠ [] → _ := fun hF => rest_whole (now := T.now) h5.go (h5.prm hF).1 (h5.prm hF).2
              have hB : 2 < N → nt none (D1 ++ D2 ++ T.f ++ ((RS.mk S5 T.now []).it left.length).f) := fun h => by
                obtain ⟨r1, r2, r3, _⟩ := h3.run (by omega)
                obtain ⟨g1, g2⟩ := h5.run (by omega)
                obtain ⟨g, e1, e2, _⟩ := RS.run (T := RS.mk S5 T.now []) h5.go g1 g2 left.length
                rw [e1]
                exact both_nt (hn1 (by omega)) (hn2 (by omega)) ⟨r2, r3⟩ e2
              generalize (RS.mk S5 T.now []).it left.length = U at hS hUl hUg rW hB ⊢
              have hDl : D1.length ≤ 12 := by omega
              have hUl' : U.f.length ≤ 12 := by rw [hUl]; show 0 + left.length ≤ 12; omega
              have hTl : T.f.length ≤ 12 := by rw [hlen3]; show 0 + j ≤ 12; omega
              walk_at "w"
              refine y_cut (fun σ H => σ = [some (.ref a), some (.ref t0), some (.ref o), some (.int (N : Nat)), b4, some (.ref l1), some (.ref l2), some (.ref l3), some (oV U.now), some (.ref f3), some (.int (way : Nat)), some (.ref l5), some (.ref f5), none] ∧
                Sep [OrderR K o U.S, pt f5 (.lst (U.f.map V.int)), pt f3 (.lst (T.f.map V.int)), pt l3 (.lst ((D1 ++ D2).map V.int))] H) (fun N' hN' => ?_) ?_
              · walk_at "s"
                refine x_neLn (ns := T.f) (sqL hS) (sqL hS) ?_
                walk_at "s"
                refine x_bool (fun hF => ?_) (fun hF => ?_)
                · have hFne : T.f ≠ [] := fun z => by rw [z] at hF; cases hF
                  obtain ⟨w1, w2⟩ := rW hFne
                  walk_at "s"
                  refine x_sorted (ns := U.f) hS (sqL hS) (by rw [w2.length_eq]; omega) fun s5 m7 H sp5 ss5 hS => ?_
                  walk_at "s"
                  refine x_sorted (ns := left) hS (sqL hS) (by omega) fun s6 m8 H sp6 ss6 hS => ?_
                  have es : s5 = s6 := sorted_eq w2 sp5 sp6 ss5 ss6
                  subst es
                  walk_at "s"
                  refine x_neD (dp_ints (ns := s5) (sqL hS)) (dp_ints (ns := s5) (sqL hS)) (shaped_ints s5) (shaped_ints s5) ?_
                  rw [eqv_of (shaped_ints s5)]
                  walk_at "s"
                  exact hN' _ _ ⟨rfl, (hS.of (by repeat (first | exact En.refl | exact En.nil | refine En.cons ?_ | refine En.drop ?_)))⟩
                · walk_at "s"
                  exact hN' _ _ ⟨rfl, (hS.of (by repeat (first | exact En.refl | exact En.nil | refine En.cons ?_ | refine En.drop ?_)))⟩
              · rintro σ H ⟨rfl, hS⟩
                walk_at "s"
                refine x_cat hS (by simp only [List.length_map, List.length_append]; exact sz' (by omega)) fun l7 H hS => ?_
                rw [← List.map_append] at hS
                walk_at "s"
                refine x_cat hS (by simp only [List.length_map, List.length_append]; exact sz' (by omega)) fun l8 H hS => ?_
                rw [← List.map_append] at hS
                walk_at "w"
                refine y_cut (fun σ H => ∃ b4 : Option V, σ = [some (.ref a), some (.ref t0), some (.ref o), some (.int (N : Nat)), b4, some (.ref l1), some (.ref l2), some (.ref l8), some (oV U.now), some (.ref f3), some (.int (way : Nat)), some (.ref l5), some (.ref f5), none] ∧
                  Sep [OrderR K o U.S, pt f3 (.lst (T.f.map V.int))] H) (fun N' hN' => ?_) ?_
                · walk_at "s"
                  refine x_dec (fun hM => ?_) (fun hM => ?_)
                  · walk_at "s"
                    obtain ⟨B, hBB⟩ : ∃ B, B = D1 ++ D2 ++ T.f ++ U.f := ⟨_, rfl⟩
                    have hBn := hB (by omega)
                    have hBl : B.length ≤ 100 ∧ 1 ≤ B.length := by
                      rw [hBB, List.length_append, List.length_append, List.length_append]
                      omega
                    rw [← hBB] at hS hBn
                    refine x_lenL (sqL hS) ?_
                    walk_at "s"
                    rw [List.length_map, show ((B.length : Nat) : Int) - 1 = ((B.length - 1 : Nat) : Int) by omega]
                    refine y_lcR (n := B.length - 1) (by omega) hS (fun D i H => Sep (pt D (.lst []) :: _) H) (fun D H h => h) (fun D i H hi hS => ?_) (fun D H hS => ?_)
                    · obtain ⟨x, hx⟩ : ∃ x, B[i]? = some x := ⟨_, List.getElem?_eq_getElem (by omega)⟩
                      obtain ⟨y, hy⟩ : ∃ y, B[i + 1]? = some y := ⟨_, List.getElem?_eq_getElem (by omega)⟩
                      have hxy := nt_at hBn hx hy
                      walk_at "s"
                      refine x_ixL (sqL hS) (atI_nat (v := .int x) (by rw [List.getElem?_map, hx] <;> rfl)) ?_
                      walk_at "s"
                      refine x_ixL (sqL hS) (atI_some (v := .int y) (by omega) (by rw [List.getElem?_map, show (((i : Nat) : Int) + 1).toNat = i + 1 by omega, hy] <;> rfl)) ?_
                      walk_at "s"
                      refine ⟨rfl, ?_⟩
                      rw [dec_V, decide_eq_false hxy]
                      walk_at "s"
                      exact hS
                    · walk_at "s"
                      refine x_neLn (ns := []) (sqL hS) (sqL hS) ?_
                      walk_at "s"
                      exact hN' _ _ ⟨_, rfl, (hS.of (by repeat (first | exact En.refl | exact En.nil | refine En.cons ?_ | refine En.drop ?_)))⟩
                  · walk_at "s"
                    exact hN' _ _ ⟨_, rfl, (hS.of (by repeat (first | exact En.refl | exact En.nil | refine En.cons ?_ | refine En.drop ?_)))⟩
                · rintro σ H ⟨b4, rfl, hS⟩
                  walk_at "s"
                  refine ⟨o, "none", U.S, _, rfl, hS.own o, fun _ H hS => ?_, fun no => absurd (show okWord "none" from .inl rfl) no⟩
                  walk_at "s"
                  refine x_eqLn (ns := T.f) (sqL hS) (sqL hS) ?_
                  walk_at "s"
                  refine x_bool (fun hF => ?_) (fun hF => ?_)
                  · exact h1 _
                  · obtain ⟨w1, w2⟩ := rW (fun z => by rw [z] at hF; cases hF)
                    walk_at "s"
                    refine ⟨o, U.now, { U.S with ag := "none" }, _, rfl, hUg.ok.again "none", hS.own o, fun H hS => ?_⟩
                    rw [skip_none hUg.mx w1 U.now]
                    walk_at "s"
                    exact h1 _
theorem endF {P : Program} {w : World} {K : PySem.W.Frag} {mg : Str → Option Value} {h : Heap} {f : Addr} (X : K.In h) (G : h.Ns mainGlobals mg) (hfa : mg ("law" : Str) = some (.ref f)) (c : Says fa fn exs K) :
    ∃ fd : FuncData, (∀ (s : Shared) (v : Value), BindsTo s fd ⟨[v], []⟩ [("_law_script", v)]) ∧ ∀ base : Heap, K.In base → base.Ns mainGlobals mg → FnOk P w K mg base CXall 6 f fd ["_law_script"] (sp_law K) := by
  have T : Top K mg := ⟨c, h, X, G⟩
  have e := hfa.symm.trans (gl_law T)
  cases e
  obtain ⟨fd, ⟨_, b⟩, ⟨_, oc, od, osl, lk⟩, F⟩ := ok_law (P := P) (w := w) (base := h) T
  refine ⟨fd, fun s v => b s [v] rfl, fun base _ _ => ?_⟩
  obtain ⟨fd2, _, ⟨_, oc2, od2, osl2, lk2⟩, F2⟩ := ok_law (P := P) (w := w) (base := base) T
  have e := lk.symm.trans lk2
  cases e
  exact fn_all F2
end
end TR
open PySem PySem.W PySem.Calls PyProof.Rows
set_option maxRecDepth 100000 in
set_option maxHeartbeats 0 in
theorem PySem.Challenge.cw_tuneroad_k21_whole_rounds_holds : PySem.Challenge.rw_tuneroad_k21_whole_rounds.Holds := by
  w_on; o_law
  refine HandSHeadRun.head_any (r := OpenLaw.row PySem.Challenge.rw_tuneroad_k21_whole_rounds) (q := TR.qV) (H := TR.hk) (ob := TR.ob) (M := TR.steps) (loose := TR.loose) (d := HandSHeadRun.topDef (OpenLaw.row PySem.Challenge.rw_tuneroad_k21_whole_rounds).prog TR.ilaw) (kwd := []) TR.ob_eq
    (by kernel_rfl) (fun s => by kernel_rfl) TR.run (by kernel_rfl) (by kernel_rfl) (by kernel_rfl) (by rfl) (by first | assumption | decide +kernel) (by decide +kernel) ⟨rfl, rfl, rfl, rfl, rfl, by decide +kernel⟩ ?hw ?hc
  case hw => w_witness2
  case hc =>
    refine L2.walk_ofE (l := PySem.Challenge.rw_tuneroad_k21_whole_rounds) (n := 63) (k := 6) (x := "_law_script") (CX := TR.CXall) rfl (by decide) (by kernel_rfl) ⟨rfl, by decide, by decide⟩ ?F TR.cxall_no
    intro w mg fa h Y G hmg0
    obtain ⟨K, KX, c⟩ := Y
    have hmg : mg ("law" : PySem.Str) = some (.ref fa) := by
      have e : (HandSHeadRun.topDef (OpenLaw.row PySem.Challenge.rw_tuneroad_k21_whole_rounds).prog TR.ilaw).name = ("law" : PySem.Str) := by kernel_rfl
      rw [← e]
      exact hmg0
    obtain ⟨fd, hb, hF⟩ := TR.endF (P := (PySem.Challenge.rw_tuneroad_k21_whole_rounds).prog) (w := w) KX G hmg c
    exact ⟨K, fd, TR.sp_law K, KX, hb, fun H a ns hl _ hS => TR.law_start hl hS, hF⟩
#print axioms PySem.Challenge.cw_tuneroad_k21_whole_rounds_holds


