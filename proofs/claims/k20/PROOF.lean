import PyProof.Rows.All
import Wide.All
import OpenK.AllK
import Wide.FinOn
import HandS.ForMost
import HandS.Exc
import HandS.TryOnly
import HandS.ExcOwn
import HandS.ExcIs
import HandS.ExcValue
import HandS.IsInst
import HandS.WordsExc
import HandS.Defaults
import HandS.Head0
import HandS.Head1
import HandS.Head2
import HandS.HeadEnd
import HandS.HeadHook1
import HandS.HeadHook2
import HandS.Style
import HandS.SetFor
import HandS.Iter
import HandS.Conv
import HandS.More
import HandS.Comp
import HandS.Dict
import PySem.Challenge.RW_tuneroad_k20_whole_orders
set_option Elab.async false
set_option linter.all false
set_option maxRecDepth 100000
set_option maxHeartbeats 4000000
/-! Assertions over the abstract heap, side by side: each owns its objects, tuples and known things are shared. -/
namespace TR
open PySem PySem.Spec PyProof.Rows L2

/-- what never changes -/
def Imm : HO → Prop
  | .tup _ => True
  | .frz _ _ => True
  | _ => False
def Sb (a b : Hp) : Prop := ∀ p o, a p = some o → b p = some o
def Dj (a b : Hp) : Prop := ∀ p o u, a p = some o → b p = some u → Imm o
theorem Sb.refl (a : Hp) : Sb a a := fun _ _ h => h
theorem Sb.trans {a b c : Hp} (h : Sb a b) (g : Sb b c) : Sb a c := fun p o e => g p o (h p o e)
abbrev As := Hp → Prop
def Sep : List As → Hp → Prop
  | [], _ => True
  | A :: R, H => ∃ h1 h2, Sb h1 H ∧ Sb h2 H ∧ Dj h1 h2 ∧ A h1 ∧ Sep R h2
theorem Sep.mono : ∀ {L : List As} {H H' : Hp}, Sb H H' → Sep L H → Sep L H'
  | [], _, _, _, _ => trivial
  | A :: R, H, H', s, ⟨h1, h2, s1, s2, d, a, r⟩ => ⟨h1, h2, s1.trans s, s2.trans s, d, a, r⟩
def uni (a b : Hp) : Hp := fun p => match a p with
  | some o => some o
  | none => b p
theorem uni_l {a b : Hp} : Sb a (uni a b) := fun p o e => by
  show (match a p with | some o => some o | none => b p) = some o
  rw [e]
theorem uni_or {a b : Hp} {p : Addr} {o : HO} (e : uni a b p = some o) : a p = some o ∨ b p = some o := by
  have e' : (match a p with | some o => some o | none => b p) = some o := e
  cases q : a p with
  | some u =>
    rw [q] at e'
    exact .inl e'
  | none =>
    rw [q] at e'
    exact .inr e'
theorem uni_sub {a b H : Hp} (ha : Sb a H) (hb : Sb b H) : Sb (uni a b) H := fun p o e => (uni_or e).elim (ha p o) (hb p o)
theorem uni_r {a b H : Hp} (ha : Sb a H) (hb : Sb b H) : Sb b (uni a b) := fun p o e => by
  show (match a p with | some o => some o | none => b p) = some o
  cases q : a p with
  | some u =>
    have h1 := ha p u q
    have h2 := hb p o e
    rw [h1] at h2
    exact h2
  | none => exact e
theorem Dj.symm {a b H : Hp} (ha : Sb a H) (hb : Sb b H) (d : Dj a b) : Dj b a := fun p o u e1 e2 => by
  have h1 := hb p o e1
  have h2 := ha p u e2
  rw [h1] at h2
  cases h2
  exact d p o o e2 e1
theorem Dj.sub {a b c : Hp} (d : Dj a b) (s : Sb c b) : Dj a c := fun p o u e1 e2 => d p o u e1 (s p u e2)
theorem Dj.subl {a b c : Hp} (d : Dj a b) (s : Sb c a) : Dj c b := fun p o u e1 e2 => d p o u (s p o e1) e2
theorem Sep.swap {A B : As} {R : List As} {H : Hp} : Sep (A :: B :: R) H → Sep (B :: A :: R) H
  | ⟨h1, h2, s1, s2, d, a, k1, k2, t1, t2, e, b, r⟩ => by
    have u1 : Sb k1 H := t1.trans s2
    have u2 : Sb k2 H := t2.trans s2
    have d1 : Dj h1 k1 := d.sub t1
    have d2 : Dj h1 k2 := d.sub t2
    refine ⟨k1, uni h1 k2, u1, uni_sub s1 u2, fun p o u e1 e2 => ?_, b, h1, k2, uni_l, uni_r s1 u2, d2, a, r⟩
    rcases uni_or e2 with z | z
    · exact d1.symm s1 u1 p o u e1 z
    · exact e p o u e1 z
theorem Sep.tail {A : As} {R : List As} {H : Hp} : Sep (A :: R) H → Sep R H := fun ⟨_, _, _, s2, _, _, r⟩ => Sep.mono s2 r
theorem Sep.skip {A : As} {R R' : List As} {H : Hp} (f : ∀ h, Sep R h → Sep R' h) : Sep (A :: R) H → Sep (A :: R') H := fun ⟨h1, h2, s1, s2, d, a, r⟩ => ⟨h1, h2, s1, s2, d, a, f h2 r⟩
theorem Sep.hd {A B : As} {R : List As} {H : Hp} (f : ∀ h, A h → B h) : Sep (A :: R) H → Sep (B :: R) H := fun ⟨h1, h2, s1, s2, d, a, r⟩ => ⟨h1, h2, s1, s2, d, f h1 a, r⟩

/-- points to -/
def pt (p : Addr) (o : HO) : As := fun h => h p = some o
theorem Sep.get {p : Addr} {o : HO} {R : List As} {H : Hp} (h : Sep (pt p o :: R) H) : H p = some o := by
  obtain ⟨h1, h2, s1, s2, d, a, r⟩ := h
  exact s1 p o a
theorem Sep.put {p : Addr} {o o' : HO} {R : List As} {H : Hp} (n : ¬ Imm o) (h : Sep (pt p o :: R) H) : Sep (pt p o' :: R) (upd H p o') := by
  obtain ⟨h1, h2, s1, s2, d, a, r⟩ := h
  have n2 : ∀ u, h2 p ≠ some u := fun u e => n (d p o u a e)
  refine ⟨fun b => if b = p then some o' else none, h2, fun b u e => ?_, fun b u e => ?_, fun b u v e1 e2 => ?_, if_pos rfl, r⟩
  · by_cases hb : b = p
    · have e1 : some o' = some u := by
        have e' : (if b = p then some o' else none) = some u := e
        rw [if_pos hb] at e'
        exact e'
      rw [hb]
      unfold upd
      rw [if_pos rfl]
      exact e1
    · have e' : (if b = p then some o' else none) = some u := e
      rw [if_neg hb] at e'
      cases e'
  · by_cases hb : b = p
    · rw [hb] at e
      exact absurd e (n2 u)
    · rw [upd_ne hb]
      exact s2 b u e
  · by_cases hb : b = p
    · rw [hb] at e2
      exact absurd e2 (n2 v)
    · have e' : (if b = p then some o' else none) = some u := e1
      rw [if_neg hb] at e'
      cases e'
theorem Sep.new {p : Addr} {o : HO} {R : List As} {H : Hp} (n : H p = none) (h : Sep R H) : Sep (pt p o :: R) (upd H p o) := by
  refine ⟨fun b => if b = p then some o else none, H, fun b u e => ?_, fun b u e => ?_, fun b u v e1 e2 => ?_, if_pos rfl, h⟩
  · by_cases hb : b = p
    · have e' : (if b = p then some o else none) = some u := e
      rw [if_pos hb] at e'
      rw [hb]
      unfold upd
      rw [if_pos rfl]
      exact e'
    · have e' : (if b = p then some o else none) = some u := e
      rw [if_neg hb] at e'
      cases e'
  · rw [upd_ne (ne_of_none e n)]
    exact e
  · by_cases hb : b = p
    · rw [hb, n] at e2
      cases e2
    · have e' : (if b = p then some o else none) = some u := e1
      rw [if_neg hb] at e'
      cases e'
/-- what is new beside: the own dict of a new instance -/
theorem Sep.newd {p : Addr} {o : HO} {R : List As} {H : Hp} (n : H p = none) (h : Sep R H) : Sep R (upd H p o) := (Sep.new n h).tail
/-- a shared thing once more -/
theorem Sep.dup {p : Addr} {o : HO} {R : List As} {H : Hp} (n : Imm o) (h : Sep (pt p o :: R) H) : Sep (pt p o :: pt p o :: R) H := by
  obtain ⟨h1, h2, s1, s2, d, a, r⟩ := h
  have one : Sb (fun b => if b = p then some o else none) h1 := fun b u e => by
    have e' : (if b = p then some o else none) = some u := e
    by_cases hb : b = p
    · rw [if_pos hb] at e'
      rw [hb, ← e']
      exact a
    · rw [if_neg hb] at e'
      cases e'
  have imm : ∀ b u, (if b = p then some o else none) = some u → Imm u := fun b u e => by
    by_cases hb : b = p
    · rw [if_pos hb] at e
      cases e
      exact n
    · rw [if_neg hb] at e
      cases e
  exact ⟨_, H, one.trans s1, Sb.refl H, fun b u v e1 e2 => imm b u e1, if_pos rfl, h1, h2, s1, s2, d, a, r⟩
/-- a fact -/
def pu (φ : Prop) : As := fun _ => φ
theorem Sep.pu {φ : Prop} {R : List As} {H : Hp} : Sep (pu φ :: R) H → φ ∧ Sep R H := fun ⟨_, _, _, s2, _, a, r⟩ => ⟨a, Sep.mono s2 r⟩
theorem Sep.fact {A : As} {φ : Prop} {R : List As} {H : Hp} (f : ∀ h, A h → φ) : Sep (A :: R) H → φ := fun ⟨h1, _, _, _, _, a, _⟩ => f h1 a
theorem empty_sb (H : Hp) : Sb (fun _ => none) H := fun _ _ e => nomatch e
theorem Sep.pui {φ : Prop} {R : List As} {H : Hp} (f : φ) (h : Sep R H) : Sep (TR.pu φ :: R) H := ⟨fun _ => none, H, empty_sb H, Sb.refl H, fun _ _ _ e => (nomatch e), f, h⟩
/-- there is one -/
def ex {α : Type} (A : α → As) : As := fun h => ∃ x, A x h
theorem Sep.ex {α : Type} {A : α → As} {R : List As} {H : Hp} : Sep (ex A :: R) H → ∃ x, Sep (A x :: R) H := fun ⟨h1, h2, s1, s2, d, ⟨x, a⟩, r⟩ => ⟨x, h1, h2, s1, s2, d, a, r⟩
theorem Sep.exi {α : Type} {A : α → As} {R : List As} {H : Hp} (x : α) (h : Sep (A x :: R) H) : Sep (TR.ex A :: R) H := Sep.hd (fun _ a => ⟨x, a⟩) h
/-- several as one -/
def all (L : List As) : As := fun h => Sep L h
theorem Sep.nil1 {R : List As} {H : Hp} (h : Sep R H) : Sep (all [] :: R) H := ⟨fun _ => none, H, empty_sb H, Sb.refl H, fun _ _ _ e => (nomatch e), trivial, h⟩
theorem Sep.flat : ∀ {L R : List As} {H : Hp}, Sep (all L :: R) H → Sep (L ++ R) H
  | [], R, H, h => h.tail
  | A :: L, R, H, ⟨h1, h2, s1, s2, d, ⟨k1, k2, t1, t2, e, a, l⟩, r⟩ => by
    have u1 : Sb k1 H := t1.trans s1
    have u2 : Sb k2 H := t2.trans s1
    have d2 : Dj k2 h2 := d.subl t2
    have q : Sep (L ++ R) (uni k2 h2) := Sep.flat ⟨k2, h2, uni_l, uni_r u2 s2, d2, l, r⟩
    refine ⟨k1, uni k2 h2, u1, uni_sub u2 s2, fun p o u e1 e2 => ?_, a, q⟩
    rcases uni_or e2 with z | z
    · exact e p o u e1 z
    · exact (d.subl t1) p o u e1 z
theorem Sep.wrap : ∀ {L R : List As} {H : Hp}, Sep (L ++ R) H → Sep (all L :: R) H
  | [], R, H, h => h.nil1
  | A :: L, R, H, ⟨h1, h2, s1, s2, d, a, q⟩ => by
    obtain ⟨k1, k2, t1, t2, e, l, r⟩ := Sep.wrap (L := L) (R := R) q
    have u1 : Sb k1 H := t1.trans s2
    have u2 : Sb k2 H := t2.trans s2
    refine ⟨uni h1 k1, k2, uni_sub s1 u1, u2, fun p o u e1 e2 => ?_, ⟨h1, k1, uni_l, uni_r s1 u1, d.sub t1, a, l⟩, r⟩
    rcases uni_or e1 with z | z
    · exact (d.sub t2) p o u z e2
    · exact e p o u z e2

/-- two as one -/
theorem Sep.join {A B C : As} {R : List As} {H : Hp} (f : ∀ h1 h2 h, Sb h1 h → Sb h2 h → A h1 → B h2 → C h) : Sep (A :: B :: R) H → Sep (C :: R) H := fun ⟨h1, h2, s1, s2, d, a, k1, k2, t1, t2, e, b, r⟩ => by
  refine ⟨uni h1 k1, k2, uni_sub s1 (t1.trans s2), t2.trans s2, fun p o u e1 e2 => ?_, f h1 k1 _ uni_l (uni_r s1 (t1.trans s2)) a b, r⟩
  rcases uni_or e1 with z | z
  · exact (d.sub t2) p o u z e2
  · exact e p o u z e2
/-- what is known of an assertion's part of the heap -/
theorem Sep.part {A : As} {R : List As} {H : Hp} : Sep (A :: R) H → ∃ h, Sb h H ∧ A h := fun ⟨h1, _, s1, _, _, a, _⟩ => ⟨h1, s1, a⟩
/-- entailment -/
def En (L L' : List As) : Prop := ∀ H, Sep L H → Sep L' H
theorem En.refl {L : List As} : En L L := fun _ h => h
theorem En.nil {L : List As} : En L [] := fun _ _ => trivial
theorem En.trans {L M N : List As} (a : En L M) (b : En M N) : En L N := fun H h => b H (a H h)
theorem En.skip {A : As} {L L' : List As} (e : En L L') : En (A :: L) (A :: L') := fun _ h => Sep.skip e h
theorem En.swap {A B : As} {R : List As} : En (A :: B :: R) (B :: A :: R) := fun _ h => Sep.swap h
/-- A stands in L, the rest is R -/
class Pk (A : As) (L : List As) (R : outParam (List As)) : Prop where
  en : En L (A :: R)
  ne : En (A :: R) L
instance Pk.here {A : As} {R : List As} : Pk A (A :: R) R := ⟨En.refl, En.refl⟩
instance (priority := low) Pk.there {A B : As} {L R : List As} [p : Pk A L R] : Pk A (B :: L) (B :: R) := ⟨(En.skip p.en).trans En.swap, En.swap.trans (En.skip p.ne)⟩
/-- o stands at p -/
class At (p : Addr) (L : List As) (o : outParam HO) (R : outParam (List As)) : Prop where
  en : En L (pt p o :: R)
instance At.here {p : Addr} {o : HO} {R : List As} : At p (pt p o :: R) o R := ⟨En.refl⟩
instance (priority := low) At.there {p : Addr} {B : As} {L R : List As} {o : HO} [q : At p L o R] : At p (B :: L) o (B :: R) := ⟨(En.skip q.en).trans En.swap⟩
theorem Sep.at_ {p : Addr} {L R : List As} {o : HO} {H : Hp} (h : Sep L H) [q : At p L o R] : H p = some o := (q.en H h).get
theorem Sep.to {A : As} {L R : List As} {H : Hp} (h : Sep L H) [q : Pk A L R] : Sep (A :: R) H := q.en H h
theorem En.cons {A : As} {L L0 R : List As} [q : Pk A L L0] (e : En L0 R) : En L (A :: R) := q.en.trans (En.skip e)
theorem En.drop {A : As} {L L' : List As} (e : En L L') : En (A :: L) L' := fun _ h => e _ h.tail
/-- the tail of L' is a letter -/
theorem Sep.of {L L' : List As} {H : Hp} (h : Sep L H) (e : En L L') : Sep L' H := e H h
/-- an assertion about what stands at p -/
class Kys (A : As) (p : outParam Addr) : Prop where
  k : True
instance {p : Addr} {o : HO} : Kys (pt p o) p := ⟨trivial⟩
class AtA (p : Addr) (L : List As) (A : outParam As) (R : outParam (List As)) : Prop where
  en : En L (A :: R)
instance AtA.here {p : Addr} {A : As} {R : List As} [Kys A p] : AtA p (A :: R) A R := ⟨En.refl⟩
instance (priority := low) AtA.there {p : Addr} {A B : As} {L R : List As} [q : AtA p L A R] : AtA p (B :: L) A (B :: R) := ⟨(En.skip q.en).trans En.swap⟩
theorem Sep.own {L R : List As} {A : As} {H : Hp} (h : Sep L H) (p : Addr) [q : AtA p L A R] : Sep (A :: R) H := q.en H h
theorem Sep.own2 {L R R2 : List As} {A B : As} {H : Hp} (h : Sep L H) (p q : Addr) [a : AtA p L A R] [b : AtA q R B R2] : Sep (A :: B :: R2) H := Sep.skip b.en (a.en H h)
theorem Sep.own3 {L R R2 R3 : List As} {A B C : As} {H : Hp} (h : Sep L H) (p q r : Addr) [a : AtA p L A R] [b : AtA q R B R2] [c : AtA r R2 C R3] : Sep (A :: B :: C :: R3) H := Sep.skip (fun _ z => Sep.skip c.en (b.en _ z)) (a.en H h)
end TR

set_option Elab.async false
set_option linter.all false
set_option maxRecDepth 100000
set_option maxHeartbeats 4000000
/-! The head's facts by names, with facts of one's own. -/
namespace TR
open PySem PySem.Spec PyProof.Rows L2
/-- what isinstance asks of an exception's class -/
def excB (K : PySem.W.Frag) (x : Str) : Bool :=
  decide (PySem.W.findIn K (.ref (He.ga K x)) "__getattribute__" = some (some (.builtin "BaseException.__getattribute__"))) && (decide (PySem.W.findIn K (.ref (He.ga K x)) "__getattr__" = some none) &&
  (decide (PySem.W.subIn K (.ref (He.ga K x)) (.type "BaseException") = some true) && (PySem.W.hasDictIn K (He.ga K x) &&
  (decide (PySem.W.findIn K (.ref (He.ga K x)) "__class__" = some (some (.builtin "object.__class__"))) && (decide (PySem.W.specialIn K (.builtin "object.__class__") "__get__" = some (some (.builtin "getset_descriptor.__get__"))) &&
  (decide (PySem.W.takesIn K (.builtin "object.__class__") = some true) && decide (PySem.W.mroIn K (He.ga K x) (.type "object") = some true)))))))
theorem excB_ok {K : PySem.W.Frag} {x : Str} (h : excB K x = true) : ExcC K (He.ga K x) := by
  obtain ⟨h1, h⟩ := He.ba h
  obtain ⟨h2, h⟩ := He.ba h
  obtain ⟨h3, h⟩ := He.ba h
  obtain ⟨h4, h⟩ := He.ba h
  obtain ⟨h5, h⟩ := He.ba h
  obtain ⟨h6, h⟩ := He.ba h
  obtain ⟨h7, h8⟩ := He.ba h
  exact ⟨of_decide_eq_true h1, of_decide_eq_true h2, of_decide_eq_true h3, h4, of_decide_eq_true h5, of_decide_eq_true h6, of_decide_eq_true h7, of_decide_eq_true h8⟩
def kitB2 (K : PySem.W.Frag) (x y : Str) (b : Bool) : Bool := decide (PySem.W.kitOne K (.ref (He.ga K x)) (.ref (He.ga K y)) = some b)
def kitV (K : PySem.W.Frag) (x : Str) (T : String) (b : Bool) : Bool := decide (PySem.W.kitOne K (.ref (He.ga K x)) (.type T) = some b)
theorem kitB2_ok {K : PySem.W.Frag} {x y : Str} {b : Bool} (h : kitB2 K x y b = true) : PySem.W.kitOne K (.ref (He.ga K x)) (.ref (He.ga K y)) = some b := of_decide_eq_true h
theorem kitV_ok {K : PySem.W.Frag} {x : Str} {T : String} {b : Bool} (h : kitV K x T b = true) : PySem.W.kitOne K (.ref (He.ga K x)) (.type T) = some b := of_decide_eq_true h

/-- what the head says -/
structure Says (fa : List He.Fa) (fn : List He.DefD) (ex : List (PySem.W.Frag → Bool)) (K : PySem.W.Frag) : Prop where
  d : He.SaysD fa fn K
  e : (ex.all fun f => f K) = true
abbrev AlY : Type := He.AlD × Bool
def obsY (fa : List He.Fa) (fn : List He.DefD) (ex : List (PySem.W.Frag → Bool)) (K : PySem.W.Frag) : AlY := (He.obsD fa fn K, ex.all fun f => f K)
/-- the last c objects, and the module's names -/
def lastK (c : Nat) (N : Nat) (g : Addr → Option Obj) : PySem.W.Frag := He.frG g (mainGlobals :: (List.range c).map fun i => N - 1 - i)
def obsYG (c : Nat) (fa : List He.Fa) (fn : List He.DefD) (ex : List (PySem.W.Frag → Bool)) (N : Nat) (g : Addr → Option Obj) : AlY := obsY fa fn ex (lastK c N g)
def valY (fn : List He.DefD) : AlY := (He.valD fn, true)
def hookY (c : Nat) (fa : List He.Fa) (fn : List He.DefD) (ex : List (PySem.W.Frag → Bool)) : PySem.W.Hook where
  α := AlY
  obs := fun s => obsYG c fa fn ex s.heap.objs.size s.heap.get?
  val := fun _ => valY fn
  says := fun _ h => ∃ K : PySem.W.Frag, K.In h ∧ Says fa fn ex K
  of := fun _ _ e => ⟨_, He.frG_in, ⟨congrArg (fun z : AlY => z.1) e, congrArg (fun z : AlY => z.2) e⟩⟩
  keeps := fun _ _ _ ⟨K, hK, c⟩ k => ⟨K, PySem.W.Frag.In.keeps hK k, c⟩
theorem obsYG_eq {c : Nat} {fa : List He.Fa} {fn : List He.DefD} {ex : List (PySem.W.Frag → Bool)} {N : Nat} {g : Addr → Option Obj} {s : Shared} (hN : N = s.heap.objs.size) (h : ∀ a, g a = s.heap.get? a) : obsYG c fa fn ex N g = (hookY c fa fn ex).obs s := by
  have e : g = s.heap.get? := funext h
  rw [e, hN] <;> rfl
theorem sizeT (s : PySem.W.SharedT) : s.n = s.abs.heap.objs.size := (PySem.W.absHeap_size s.tree s.n s.life).symm
theorem Says.fact {fa : List He.Fa} {fn : List He.DefD} {ex : List (PySem.W.Frag → Bool)} {K : PySem.W.Frag} (c : Says fa fn ex K) (i : Nat) {f : He.Fa} (h : fa[i]? = some f := by rfl) : f.ok K = true := c.d.fact i h
theorem Says.more {fa : List He.Fa} {fn : List He.DefD} {ex : List (PySem.W.Frag → Bool)} {K : PySem.W.Frag} (c : Says fa fn ex K) (i : Nat) {f : PySem.W.Frag → Bool} (h : ex[i]? = some f := by rfl) : f K = true :=
  List.all_eq_true.mp c.e f (List.mem_of_getElem? h)
/-! ### the run's equation in parts, each checked by itself -/
theorem run_pair {σ α β : Type} {o : Option σ} {g : σ → α × β} {b : α × β} (h1 : o.map (fun s => (g s).1) = some b.1) (h2 : o.map (fun s => (g s).2) = some b.2) : o.map g = some b := by
  cases o with
  | none => cases h1
  | some s =>
    have e1 : (g s).1 = b.1 := Option.some.inj h1
    have e2 : (g s).2 = b.2 := Option.some.inj h2
    exact congrArg some (Prod.ext e1 e2)
theorem run_parts {σ α β γ : Type} {o : Option σ} {f : σ → α} {g : σ → β} {h : σ → γ} {a : α} {b : β} {c : γ} (h1 : o.map f = some a) (h2 : o.map g = some b) (h3 : o.map h = some c) : o.map (fun s => (f s, g s, h s)) = some (a, b, c) := by
  cases o with
  | none => cases h1
  | some s =>
    have e1 : f s = a := Option.some.inj h1
    have e2 : g s = b := Option.some.inj h2
    have e3 : h s = c := Option.some.inj h3
    show some (f s, g s, h s) = some (a, b, c)
    rw [e1, e2, e3]
end TR

set_option Elab.async false
set_option linter.all false
set_option maxRecDepth 100000
set_option maxHeartbeats 0
/-! The text by places, the head. -/
namespace TR
open PySem PySem.Spec PyProof.Rows L2
def top (i : Nat) : Stmt := PySem.Challenge.pw_tuneroad_k20_whole_orders.main.body.getD i (.Pass ⟨0, 0, 0, 0⟩)
abbrev s_Dice_init : Stmt := inClass (top 12) 0
abbrev s_Dice_below : Stmt := inClass (top 12) 1
abbrev s_mixed : Stmt := top 13
abbrev s_Queue_init : Stmt := inClass (top 16) 0
abbrev s_Queue_entries : Stmt := inClass (top 16) 1
abbrev s_Queue_need : Stmt := inClass (top 16) 2
abbrev s_Queue_tune : Stmt := inClass (top 16) 3
abbrev s_Queue_put : Stmt := inClass (top 16) 4
abbrev s_Queue_remove : Stmt := inClass (top 16) 5
abbrev s_Queue_move : Stmt := inClass (top 16) 6
abbrev s_Queue_place : Stmt := inClass (top 16) 7
abbrev s_Order_init : Stmt := inClass (top 19) 0
abbrev s_Order_set_again : Stmt := inClass (top 19) 1
abbrev s_Order_set_mixed : Stmt := inClass (top 19) 2
abbrev s_Order_put : Stmt := inClass (top 19) 3
abbrev s_Order_remove : Stmt := inClass (top 19) 4
abbrev s_Order_next_plain : Stmt := inClass (top 19) 5
abbrev s_Order_next_mixed : Stmt := inClass (top 19) 6
abbrev s_Order_after : Stmt := inClass (top 19) 7
abbrev s_Order_skip : Stmt := inClass (top 19) 8
abbrev s_Order_first : Stmt := inClass (top 19) 9
abbrev s_Order_began : Stmt := inClass (top 19) 10
abbrev s_l_cell : Stmt := top 21
abbrev s_l_mix : Stmt := top 22
abbrev s_l_draw : Stmt := top 23
abbrev s_l_pick : Stmt := top 24
abbrev s_l_refusal : Stmt := top 25
abbrev s_l_below : Stmt := top 26
abbrev s_l_mixed : Stmt := top 27
abbrev s_l_order : Stmt := top 28
abbrev s_l_put : Stmt := top 29
abbrev s_l_behind : Stmt := top 30
abbrev s_l_remove : Stmt := top 31
abbrev s_l_skip : Stmt := top 32
abbrev s_l_after : Stmt := top 33
abbrev s_l_first : Stmt := top 34
abbrev s_l_set_mixed : Stmt := top 35
abbrev s_l_began : Stmt := top 36
abbrev s_l_told : Stmt := top 37
abbrev s_l_turned : Stmt := top 38
abbrev s_l_call : Stmt := top 39
abbrev s_law : Stmt := top 40
def d_Dice_init : He.DefD := ⟨("Dice", some "__init__"), "__init__", "Dice.__init__", defArgs s_Dice_init, defBody s_Dice_init, defScope s_Dice_init, [], []⟩
def d_Dice_below : He.DefD := ⟨("Dice", some "below"), "below", "Dice.below", defArgs s_Dice_below, defBody s_Dice_below, defScope s_Dice_below, [], []⟩
def d_mixed : He.DefD := ⟨("mixed", none), "mixed", "mixed", defArgs s_mixed, defBody s_mixed, defScope s_mixed, [], []⟩
def d_Queue_init : He.DefD := ⟨("Queue", some "__init__"), "__init__", "Queue.__init__", defArgs s_Queue_init, defBody s_Queue_init, defScope s_Queue_init, [], []⟩
def d_Queue_entries : He.DefD := ⟨("Queue", some "entries"), "entries", "Queue.entries", defArgs s_Queue_entries, defBody s_Queue_entries, defScope s_Queue_entries, [], []⟩
def d_Queue_need : He.DefD := ⟨("Queue", some "need"), "need", "Queue.need", defArgs s_Queue_need, defBody s_Queue_need, defScope s_Queue_need, [], []⟩
def d_Queue_tune : He.DefD := ⟨("Queue", some "tune"), "tune", "Queue.tune", defArgs s_Queue_tune, defBody s_Queue_tune, defScope s_Queue_tune, [], []⟩
def d_Queue_put : He.DefD := ⟨("Queue", some "put"), "put", "Queue.put", defArgs s_Queue_put, defBody s_Queue_put, defScope s_Queue_put, [], []⟩
def d_Queue_remove : He.DefD := ⟨("Queue", some "remove"), "remove", "Queue.remove", defArgs s_Queue_remove, defBody s_Queue_remove, defScope s_Queue_remove, [], []⟩
def d_Queue_move : He.DefD := ⟨("Queue", some "move"), "move", "Queue.move", defArgs s_Queue_move, defBody s_Queue_move, defScope s_Queue_move, [], []⟩
def d_Queue_place : He.DefD := ⟨("Queue", some "place"), "place", "Queue.place", defArgs s_Queue_place, defBody s_Queue_place, defScope s_Queue_place, [], []⟩
def d_Order_init : He.DefD := ⟨("Order", some "__init__"), "__init__", "Order.__init__", defArgs s_Order_init, defBody s_Order_init, defScope s_Order_init, [], []⟩
def d_Order_set_again : He.DefD := ⟨("Order", some "set_again"), "set_again", "Order.set_again", defArgs s_Order_set_again, defBody s_Order_set_again, defScope s_Order_set_again, [], []⟩
def d_Order_set_mixed : He.DefD := ⟨("Order", some "set_mixed"), "set_mixed", "Order.set_mixed", defArgs s_Order_set_mixed, defBody s_Order_set_mixed, defScope s_Order_set_mixed, [], []⟩
def d_Order_put : He.DefD := ⟨("Order", some "put"), "put", "Order.put", defArgs s_Order_put, defBody s_Order_put, defScope s_Order_put, [], []⟩
def d_Order_remove : He.DefD := ⟨("Order", some "remove"), "remove", "Order.remove", defArgs s_Order_remove, defBody s_Order_remove, defScope s_Order_remove, [], []⟩
def d_Order_next_plain : He.DefD := ⟨("Order", some "next_plain"), "next_plain", "Order.next_plain", defArgs s_Order_next_plain, defBody s_Order_next_plain, defScope s_Order_next_plain, [], []⟩
def d_Order_next_mixed : He.DefD := ⟨("Order", some "next_mixed"), "next_mixed", "Order.next_mixed", defArgs s_Order_next_mixed, defBody s_Order_next_mixed, defScope s_Order_next_mixed, [], []⟩
def d_Order_after : He.DefD := ⟨("Order", some "after"), "after", "Order.after", defArgs s_Order_after, defBody s_Order_after, defScope s_Order_after, [], []⟩
def d_Order_skip : He.DefD := ⟨("Order", some "skip"), "skip", "Order.skip", defArgs s_Order_skip, defBody s_Order_skip, defScope s_Order_skip, [], []⟩
def d_Order_first : He.DefD := ⟨("Order", some "first"), "first", "Order.first", defArgs s_Order_first, defBody s_Order_first, defScope s_Order_first, [], []⟩
def d_Order_began : He.DefD := ⟨("Order", some "began"), "began", "Order.began", defArgs s_Order_began, defBody s_Order_began, defScope s_Order_began, [], []⟩
def d_l_cell : He.DefD := ⟨("_law_cell", none), "_law_cell", "_law_cell", defArgs s_l_cell, defBody s_l_cell, defScope s_l_cell, [], []⟩
def d_l_mix : He.DefD := ⟨("_law_mix", none), "_law_mix", "_law_mix", defArgs s_l_mix, defBody s_l_mix, defScope s_l_mix, [], []⟩
def d_l_draw : He.DefD := ⟨("_law_draw", none), "_law_draw", "_law_draw", defArgs s_l_draw, defBody s_l_draw, defScope s_l_draw, [], []⟩
def d_l_pick : He.DefD := ⟨("_law_pick", none), "_law_pick", "_law_pick", defArgs s_l_pick, defBody s_l_pick, defScope s_l_pick, [], []⟩
def d_l_refusal : He.DefD := ⟨("_law_refusal", none), "_law_refusal", "_law_refusal", defArgs s_l_refusal, defBody s_l_refusal, defScope s_l_refusal, [], []⟩
def d_l_below : He.DefD := ⟨("_law_below", none), "_law_below", "_law_below", defArgs s_l_below, defBody s_l_below, defScope s_l_below, [], []⟩
def d_l_mixed : He.DefD := ⟨("_law_mixed", none), "_law_mixed", "_law_mixed", defArgs s_l_mixed, defBody s_l_mixed, defScope s_l_mixed, [], []⟩
def d_l_order : He.DefD := ⟨("_law_order", none), "_law_order", "_law_order", defArgs s_l_order, defBody s_l_order, defScope s_l_order, [], []⟩
def d_l_put : He.DefD := ⟨("_law_put", none), "_law_put", "_law_put", defArgs s_l_put, defBody s_l_put, defScope s_l_put, [], []⟩
def d_l_behind : He.DefD := ⟨("_law_behind", none), "_law_behind", "_law_behind", defArgs s_l_behind, defBody s_l_behind, defScope s_l_behind, [], []⟩
def d_l_remove : He.DefD := ⟨("_law_remove", none), "_law_remove", "_law_remove", defArgs s_l_remove, defBody s_l_remove, defScope s_l_remove, [], []⟩
def d_l_skip : He.DefD := ⟨("_law_skip", none), "_law_skip", "_law_skip", defArgs s_l_skip, defBody s_l_skip, defScope s_l_skip, [], []⟩
def d_l_after : He.DefD := ⟨("_law_after", none), "_law_after", "_law_after", defArgs s_l_after, defBody s_l_after, defScope s_l_after, [], []⟩
def d_l_first : He.DefD := ⟨("_law_first", none), "_law_first", "_law_first", defArgs s_l_first, defBody s_l_first, defScope s_l_first, [], []⟩
def d_l_set_mixed : He.DefD := ⟨("_law_set_mixed", none), "_law_set_mixed", "_law_set_mixed", defArgs s_l_set_mixed, defBody s_l_set_mixed, defScope s_l_set_mixed, [], []⟩
def d_l_began : He.DefD := ⟨("_law_began", none), "_law_began", "_law_began", defArgs s_l_began, defBody s_l_began, defScope s_l_began, [], []⟩
def d_l_told : He.DefD := ⟨("_law_told", none), "_law_told", "_law_told", defArgs s_l_told, defBody s_l_told, defScope s_l_told, [], []⟩
def d_l_turned : He.DefD := ⟨("_law_turned", none), "_law_turned", "_law_turned", defArgs s_l_turned, defBody s_l_turned, defScope s_l_turned, [], []⟩
def d_l_call : He.DefD := ⟨("_law_call", none), "_law_call", "_law_call", defArgs s_l_call, defBody s_l_call, defScope s_l_call, [], []⟩
def d_law : He.DefD := ⟨("law", none), "law", "law", defArgs s_law, defBody s_law, defScope s_law, [], []⟩
def fn : List He.DefD := (([d_Dice_init, d_Dice_below, d_mixed, d_Queue_init, d_Queue_entries, d_Queue_need, d_Queue_tune, d_Queue_put, d_Queue_remove, d_Queue_move, d_Queue_place, d_Order_init, d_Order_set_again, d_Order_set_mixed, d_Order_put, d_Order_remove, d_Order_next_plain, d_Order_next_mixed, d_Order_after, d_Order_skip] : List He.DefD) ++ (([d_Order_first, d_Order_began, d_l_cell, d_l_mix, d_l_draw, d_l_pick, d_l_refusal, d_l_below, d_l_mixed, d_l_order, d_l_put, d_l_behind, d_l_remove, d_l_skip, d_l_after, d_l_first, d_l_set_mixed, d_l_began, d_l_told, d_l_turned] : List He.DefD) ++ ([d_l_call, d_law] : List He.DefD)))
def fa : List He.Fa := (([.glo "RoadError", .exc "RoadError", .glo "BadTune", .exc "BadTune", .glo "BadNumber", .exc "BadNumber", .glo "BadEntry", .exc "BadEntry", .glo "BadWord", .exc "BadWord", .glo "Dice", .cls "Dice", .mkr "Dice", .noat "Dice" "number", .meth "Dice" "below", .glo "Queue", .cls "Queue", .mkr "Queue", .noat "Queue" "tunes", .noat "Queue" "turn"] : List He.Fa) ++ (([.noat "Queue" "last", .meth "Queue" "entries", .meth "Queue" "need", .meth "Queue" "tune", .meth "Queue" "put", .meth "Queue" "remove", .meth "Queue" "move", .meth "Queue" "place", .glo "Order", .cls "Order", .mkr "Order", .noat "Order" "queue", .noat "Order" "dice", .noat "Order" "is_mixed", .noat "Order" "again", .noat "Order" "deck", .noat "Order" "is_gone", .noat "Order" "behind", .meth "Order" "set_again", .meth "Order" "set_mixed"] : List He.Fa) ++ (([.meth "Order" "put", .meth "Order" "remove", .meth "Order" "next_plain", .meth "Order" "next_mixed", .meth "Order" "after", .meth "Order" "skip", .meth "Order" "first", .meth "Order" "began", .exm "RoadError" "RoadError" true, .exm "BadTune" "RoadError" true, .exm "BadNumber" "RoadError" true, .exm "BadEntry" "RoadError" true, .exm "BadWord" "RoadError" true, .glo "mixed", .glo "_law_cell", .glo "_law_mix", .glo "_law_draw", .glo "_law_pick", .glo "_law_refusal", .glo "_law_below"] : List He.Fa) ++ (([.glo "_law_mixed", .glo "_law_order", .glo "_law_put", .glo "_law_behind", .glo "_law_remove", .glo "_law_skip", .glo "_law_after", .glo "_law_first", .glo "_law_set_mixed", .glo "_law_began", .glo "_law_told", .glo "_law_turned", .glo "_law_call", .glo "law", .int "WHEEL" 6075, .int "TIMES" 106, .int "MORE" 1283, .int "MOST" 60, .int "MOST_ENTRIES" 12, .glo "REPEATS"] : List He.Fa) ++ ([.free "len", .free "range", .free "list", .free "isinstance", .free "ValueError"] : List He.Fa)))))
def exs : List (PySem.W.Frag → Bool) := (([fun K => true, fun K => excB K "RoadError", fun K => excB K "BadTune", fun K => excB K "BadNumber", fun K => excB K "BadEntry", fun K => excB K "BadWord", fun K => kitB2 K "BadTune" "BadTune" true, fun K => kitB2 K "BadTune" "BadNumber" false, fun K => kitB2 K "BadTune" "BadEntry" false, fun K => kitB2 K "BadTune" "BadWord" false, fun K => kitV K "BadTune" "ValueError" true, fun K => kitB2 K "BadNumber" "BadTune" false, fun K => kitB2 K "BadNumber" "BadNumber" true, fun K => kitB2 K "BadNumber" "BadEntry" false, fun K => kitB2 K "BadNumber" "BadWord" false, fun K => kitV K "BadNumber" "ValueError" true, fun K => kitB2 K "BadEntry" "BadTune" false, fun K => kitB2 K "BadEntry" "BadNumber" false, fun K => kitB2 K "BadEntry" "BadEntry" true, fun K => kitB2 K "BadEntry" "BadWord" false] : List (PySem.W.Frag → Bool)) ++ ([fun K => kitV K "BadEntry" "ValueError" true, fun K => kitB2 K "BadWord" "BadTune" false, fun K => kitB2 K "BadWord" "BadNumber" false, fun K => kitB2 K "BadWord" "BadEntry" false, fun K => kitB2 K "BadWord" "BadWord" true, fun K => kitV K "BadWord" "ValueError" true, fun K => He.tupB K "REPEATS" [.str "none", .str "all", .str "one"]] : List (PySem.W.Frag → Bool)))
abbrev R : PySem.W.OpenRow := PySem.W.OpenLaw.row PySem.Challenge.rw_tuneroad_k20_whole_orders
def loose : List Str := ((["_wall", "__name__", "RoadError", "BadTune", "BadNumber", "BadEntry", "BadWord", "WHEEL", "TIMES", "MORE", "MOST", "Dice", "mixed", "MOST_ENTRIES", "Queue", "REPEATS", "Order", "_law_cell", "_law_mix", "_law_draw"] : List Str) ++ (["_law_pick", "_law_refusal", "_law_below", "_law_mixed", "_law_order", "_law_put", "_law_behind", "_law_remove", "_law_skip", "_law_after", "_law_first", "_law_set_mixed", "_law_began", "_law_told", "_law_turned", "_law_call"] : List Str))
def ilaw : Nat := 40
def steps : Nat := 5000
def objs : Nat := 500
abbrev hk : PySem.W.Hook := hookY objs fa fn exs
def ob (s : PySem.W.SharedT) : AlY := obsYG objs fa fn exs s.n (HandSHeadRun.getT s)
theorem ob_eq (s : PySem.W.SharedT) : ob s = hk.obs s.abs := obsYG_eq (sizeT s) (HandSHeadRun.getT_eq s)
noncomputable section
open HandSHeadRun PySem.W PySem.Calls
abbrev qV : Program := PySem.W.view R.prog [ilaw]
abbrev seenV (s : SharedT) := seenQ qV loose (importedModules R.prog.main.body) (fun s => xlAt qV [] s && recOk R.toRowW.records s) s.abs
abbrev endV (w : World) (os : OsState) : Option SharedT := endF (stepQ (denQ tabQ) R.prog w) steps R.prog w os
theorem run1 (w : World) (os : OsState) : (endV w os).map (fun s => looksF R.prog (boot_heap w.params) s.abs) = some true := by kernel_rfl
theorem run2 (w : World) (os : OsState) : (endV w os).map (fun s => (seenV s).1) = some (openGood qV loose).1 := by kernel_rfl
theorem run3 (w : World) (os : OsState) : (endV w os).map (fun s => (seenV s).2.1) = some (openGood qV loose).2.1 := by kernel_rfl
theorem run4 (w : World) (os : OsState) : (endV w os).map (fun s => (seenV s).2.2.1) = some (openGood qV loose).2.2.1 := by kernel_rfl
theorem run5 (w : World) (os : OsState) : (endV w os).map (fun s => (seenV s).2.2.2) = some (openGood qV loose).2.2.2 := by kernel_rfl
theorem run6 (w : World) (os : OsState) : (endV w os).map (fun s => (ob s).1.1) = some true := by kernel_rfl
theorem run7 (w : World) (os : OsState) : (endV w os).map (fun s => (ob s).1.2) = some (fn.map He.DefD.val) := by kernel_rfl
theorem run8 (w : World) (os : OsState) : (endV w os).map (fun s => (ob s).2) = some true := by kernel_rfl
theorem run (w : World) : RunEq R qV hk ob steps loose w := fun os =>
  run_parts (run1 w os) (run_pair (run2 w os) (run_pair (run3 w os) (run_pair (run4 w os) (run5 w os)))) (run_pair (b := hk.val w) (run_pair (b := (hk.val w).1) (run6 w os) (run7 w os)) (run8 w os))
end
end TR

set_option Elab.async false
set_option linter.all false
set_option maxRecDepth 100000
set_option maxHeartbeats 4000000
/-! An error that is caught and held by a name; isinstance of it; calls of own defs in short. -/
namespace TR
open PySem PySem.Spec PyProof.Rows L2

/-! ### an exception object that is held -/
def ExA (cls : Value) (a : Addr) : HO := .ext fun h => ∃ (oe : Obj) (vs : Array Value), h.get? a = some oe ∧ Zc cls none oe ∧ oe.data = .fields vs
theorem exA_ok {P : Program} {w : World} {H : Hp} {h : Heap} {a : Addr} {cls : Value} {oe : Obj} {vs : Array Value} (e : h.get? a = some oe) (z : Zc cls none oe) (d : oe.data = .fields vs) : ObjOk P w H h a (ExA cls a) :=
  ⟨⟨oe, vs, e, z, d⟩, ⟨oe, e⟩, fun _ _ ⟨o, v, q, r⟩ k => ⟨o, v, k o q, r⟩⟩
section
variable {X : Cx} {pins : List (Addr × Obj)} {σ : L2.St} {H : Hp} {s : Shared}
theorem Inv.track {a : Addr} {o : HO} (I : Inv X pins σ H s) (na : H a = none) (n0 : X.s_0.heap.get? a = none) (np : ∀ p ∈ X.pn ++ pins, p.1 ≠ a) (nL : a ≠ X.env.locals) (nc : ∀ x c, X.env.cells.lookup x = some c → c ≠ a)
    (new : ObjOk X.prog X.w (upd H a o) s.heap a o) : Inv X pins σ (upd H a o) s := by
  refine ⟨I.ok, I.os, I.bare, ⟨fun b ob e n hb hx => I.base.keep b ob e n hb hx, fun b ob e n hb hx => I.base.slot b ob e n hb hx, fun b ob e n hx => ?_, fun b ob e hx => I.base.there b ob e hx, fun b xs e => ?_, fun b ob xs e => ?_, fun b ps e => ?_⟩, I.loc, I.cell, ?_, fun x c e => ?_, fun p hp => ?_, fun b u e => ?_, I.len⟩
  · have hb : b ≠ a := fun z => by
      rw [z, n0] at e
      cases e
    rw [upd_ne hb]
    exact I.base.free b ob e n hx
  · have q := I.base.tups b xs e
    rw [upd_ne (ne_of_none q na)]
    exact q
  · have q := I.base.frzs b ob xs e
    rw [upd_ne (ne_of_none q na)]
    exact q
  · obtain ⟨m, q⟩ := I.base.tbls b ps e
    refine ⟨m, ?_⟩
    rw [upd_ne (ne_of_none q na)]
    exact q
  · rw [upd_ne (Ne.symm nL)]
    exact I.free
  · rw [upd_ne (nc x c e)]
    exact I.freeC x c e
  · obtain ⟨e, n, r⟩ := I.pin p hp
    refine ⟨e, ?_, r⟩
    rw [upd_ne (np p hp)]
    exact n
  · by_cases hb : b = a
    · rw [hb] at e ⊢
      rw [upd_same] at e
      cases e
      exact new
    · rw [upd_ne hb] at e
      exact (I.hok b u e).stay (fun _ _ _ q => q) (fun c q => by rw [upd_ne (ne_of_none q na)]; exact q) fun c xs q => by rw [upd_ne (ne_of_none q na)]; exact q
theorem Inv.unsuiteK {a : Addr} {q : Addr × Obj} (I : Inv (X.suite a (q :: (X.pn ++ pins))) [] σ H s) (ok : X.Ok) : Inv X (q :: pins) σ H s :=
  ⟨ok, I.os, I.bare, I.base, I.loc, I.cell, I.free, I.freeC, fun p hp => I.pin p (by
    rw [List.append_nil]
    show p ∈ q :: (X.pn ++ pins)
    rcases List.mem_append.mp hp with z | z
    · exact List.mem_cons_of_mem _ (List.mem_append_left _ z)
    · rcases List.mem_cons.mp z with z | z
      · rw [z]
        exact List.mem_cons_self
      · exact List.mem_cons_of_mem _ (List.mem_append_right _ z)), I.hok, I.len⟩
end

/-- what the clause «except x as n» wishes; behind the suite the error is known as an object -/
def wHold (K : PySem.W.Frag) (c : Value) (i : Nat) (ts : Addr → List (Addr × Obj) → TS) (Wout : WX) (D : Ends) : WX := fun cls d σ H =>
  ∃ b, PySem.W.exmOne K cls c = some b ∧ (b = true → d = none ∧ ∀ a pn, H a = none → ts a pn { nx := fun σ' H' => H' a = none ∧ D.nx (σ'.set i none) (upd H' a (ExA cls a)), rt := fun _ _ => False } (σ.set i (some (.ref a))) H) ∧
    (b = false → Wout cls d σ H)
section
variable {X : Cx} {x n : Str} {c : Value} {i : Nat} {body suite : List Stmt} {b₀ : Stmt} {np pos pos' : Pos} {ts : Addr → List (Addr × Obj) → TS} {Wout : WX}
  {tb : ∀ (W : WX) (pn : List (Addr × Obj)) (xe : Value → Shared → Prop), Takes (X.tr pn xe) W → PassesOwn (model X.prog X.w) X.A X.env xe → TS}
/-- a try's reading -/
def tTry (X : Cx) (c : Value) (i : Nat) (ts : Addr → List (Addr × Obj) → TS) (Wout : WX) (tb : ∀ (W : WX) (pn : List (Addr × Obj)) (xe : Value → Shared → Prop), Takes (X.tr pn xe) W → PassesOwn (model X.prog X.w) X.A X.env xe → TS) : TS :=
  fun D σ H => ∀ pn xe (tk : Takes (X.tr pn xe) (wHold X.K c i ts Wout D)) (po : PassesOwn (model X.prog X.w) X.A X.env xe), tb (wHold X.K c i ts Wout D) pn xe tk po D σ H
theorem ps_try_hold (hs : X.stack = X.env :: X.outer) (hf : X.env.frame = some X.env.locals) (hex : X.ex = []) (hN : X.N.Nodup) (hi : X.N[i]? = some n) (hln : X.env.kindOf n = some .local) (hc : Names X x c) (tk : Takes X Wout)
    (hb : ∀ (W : WX) (pn : List (Addr × Obj)) (xe : Value → Shared → Prop) (tk : Takes (X.tr pn xe) W) (po : PassesOwn (model X.prog X.w) X.A X.env xe), PSs (X.tr pn xe) body (tb W pn xe tk po))
    (hsu : ∀ (a : Addr) (pn : List (Addr × Obj)), PSs (X.suite a pn) (b₀ :: suite) (ts a pn)) :
    PS X (.Try body [.ExceptHandler (some (.Name x np)) (some n) (b₀ :: suite) pos'] [] [] pos) (tTry X c i ts Wout tb) := by
  refine ⟨fun pins s σ H D I h => ?_⟩
  have ok := I.ok
  have hfr : X.A.frames = some (X.env :: X.outer) := by rw [ok.frames, hs]
  have hloc : Loc X.env.scope n := .inl hln
  refine wpAny_Try_except ?_
  refine wpAny_mono ((hb (wHold X.K c i ts Wout D) (X.pn ++ pins) (fun e s₁ => wpAny (model X.prog X.w) X.A (noteFrame e X.env) (fun _ s₂ => wpAny (model X.prog X.w) X.A (setFlight e none) (fun _ s₃ =>
    wpAny (model X.prog X.w) X.A (handleBy e X.env [.ExceptHandler (some (.Name x np)) (some n) (b₀ :: suite) pos']) (SP X pins D) X.xe s₃) X.xe s₂) X.xe s₁) (fun u s' xx => ?_) PassesOwn.looking).run [] s σ H D (I.toTry _) (h _ _ _ _)) (fun f s1 hsp => ?_) (fun e s1 he => he)
  · obtain ⟨a, B, sI, pins', σ', H', cls, d, rfl, J', nb, up, sky, na, os, ag, b, hb1, hyes, hno⟩ := xx
    have J : Inv X pins σ' H' sI := J'.ofTry ok
    have sky' : Sky B (X.env :: X.outer) a (Zc cls d) X.env.locals s'.heap := by rw [← hs]; exact sky
    show wpAny (model X.prog X.w) X.A (noteFrame (.ref a) X.env) _ _ _
    refine Sky.land Zc.steady hfr hf sky' fun h3 fl3 up3 => ?_
    have J3 : Inv X pins σ' H' { s' with heap := h3 } := J.landed nb fl3.1 (up.trans up3) os ag
    obtain ⟨oe3, vs3, he3, hz3, hd3⟩ := fl3.there
    have notFr : ∀ {h : Heap} {o : Obj} {vs : Array Value}, h.FunFrames B (X.env :: X.outer) → h.get? a = some o → o.data = .fields vs → a ∉ frs (X.env :: X.outer) := fun {h o vs} ff e dd hm => by
      obtain ⟨_, o', e', hnf⟩ := ff.mem hm
      rw [e] at e'; cases e'
      exact hnf _ dd
    have nfr := notFr fl3.2.2.1 he3 hd3
    have nL : a ≠ X.env.locals := fun z => nfr (List.mem_filterMap.mpr ⟨X.env, List.mem_cons_self, by rw [hf, z]⟩)
    have nF : a ∉ X.fs := fun hm => by
      obtain ⟨e, he, q⟩ := List.mem_filterMap.mp hm
      exact nfr (List.mem_filterMap.mpr ⟨e, List.mem_cons_of_mem _ he, q⟩)
    have nB : B.get? a = none := fl3.2.1
    have nI : ∀ o, sI.heap.get? a ≠ some o := fun o e => by
      have q := nb a o e (by rw [hs]; exact nfr)
      rw [nB] at q
      cases q
    have n0 : X.s_0.heap.get? a = none := by
      cases q : X.s_0.heap.get? a with
      | none => rfl
      | some o =>
        obtain ⟨o', e'⟩ := J.base.there a o q (by rw [hex]; exact fun z => nomatch z)
        exact absurd e' (nI o')
    have npn : ∀ p ∈ X.pn ++ pins, p.1 ≠ a := fun p hp z => by
      have q := (J'.pin p (List.mem_append_left _ hp)).1
      rw [z] at q
      exact nI _ q
    have ncl : ∀ y k, X.env.cells.lookup y = some k → k ≠ a := fun y k e z => by
      obtain ⟨v, o, ho, hd⟩ := J.cell y k e
      rw [z] at ho
      exact nI _ ho
    have S3 := J3.suite he3 hd3 na nL nF
    refine wpAny_handleBy_cons (codeAny_handlers_test ?_) (by intro q; cases q)
    have LT : PySem.W.Looks (model X.prog X.w) h3 (typeOf (.ref a)) cls := fun A Q E s k q => wpAny_typeOf_ref (k _ _ he3) (by rw [hz3.1]; exact q)
    have LM := PySem.W.exm_one (M := model X.prog X.w) (J3.kIn) LT hb1
    have test : ∀ {Q : Value → Shared → Prop} {E : Value → Shared → Prop}, Q c { s' with heap := h3 } → wpAny (model X.prog X.w) (X.A.mark (some (.ref a))) (eval (.Name x np) X.env) Q E { s' with heap := h3 } := fun {Q E} q => by
      obtain ⟨hg, hdbg, hm | ⟨hm, hv, hnn⟩⟩ := hc
      · exact ld_glob (X := X.suite a ((a, oe3) :: (X.pn ++ pins))) S3 hg hm q hdbg
      · exact ld_blt (X := X.suite a ((a, oe3) :: (X.pn ++ pins))) S3 hg hm hv q hnn hdbg
    refine test (LM.here ?_)
    cases b with
    | true =>
      refine codeAny_handlers_suite_as ?_
      refine HandSPX.lands_againZ fl3 fun h4 fl4 up4 => ?_
      have J4 : Inv X pins σ' H' { s' with heap := h4 } := J.landed nb fl4.1 ((up.trans up3).trans up4) os ag
      obtain ⟨oe4, vs4, he4, hz4, hd4⟩ := fl4.there
      have S4 := J4.suite he4 hd4 na nL nF
      obtain ⟨hd0, hyes2⟩ := hyes rfl
      subst hd0
      refine store_ok (X := X.suite a ((a, oe4) :: (X.pn ++ pins))) (v := .ref a) S4 hN hi hloc rfl (fun s5 S5 => ?_) (.inr hln)
      refine wpAny_mono ((hsu a ((a, oe4) :: (X.pn ++ pins))).run [] s5 _ H' _ S5 (hyes2 a _ na)) (fun f s6 hsp => ?_) (fun _ _ z => False.elim z)
      cases f with
      | next =>
        obtain ⟨σ6, H6, S6, n6, q6⟩ := hsp
        have S6' : Inv X ((a, oe4) :: pins) σ6 H6 s6 := Inv.unsuiteK S6 ok
        show wpAny (model X.prog X.w) X.A (do bindName X.env n .none; unbindBehindTheSuite X.env n pos') _ X.xe s6
        refine gone_ok S6' hN hi hln fun s7 J7 => ?_
        have hp := J7.pin (a, oe4) (List.mem_append_right _ List.mem_cons_self)
        have J8 : Inv X pins (σ6.set i none) H6 s7 := J7.pins_of fun p hp => J7.pin p (List.mem_append_right _ (List.mem_cons_of_mem _ hp))
        exact ⟨_, _, Inv.track J8 n6 n0 npn nL ncl (exA_ok hp.1 hz4 hd4), q6⟩
      | brk =>
        obtain ⟨σ6, H6, S6, q6⟩ := hsp
        exact False.elim q6
      | cont =>
        obtain ⟨σ6, H6, S6, q6⟩ := hsp
        exact False.elim q6
      | ret u =>
        obtain ⟨v6, σ6, H6, S6, r6, q6⟩ := hsp
        exact False.elim q6
    | false =>
      show wpAny _ X.A (handleBy (.ref a) X.env []) _ _ _
      refine wpAny_handleBy_nil ?_
      obtain ⟨k1, k2, k3, oe, vs, T, oT, ts', he, hz, hd, h1, hr⟩ := id fl3
      unfold PySem.passOn
      refine wpAny_bind (wpAny_field he hd h1 ?_)
      rw [if_neg (show ¬ ((Value.ref T == Value.none) = true) from by simp)]
      have fin : wpAny (model X.prog X.w) X.A (setFlight (.ref a) X.env.frame) (fun _ s4 => wpAny (model X.prog X.w) X.A (throw (.ref a) : Sem Flow) (SP X pins D) X.xe s4) X.xe { s' with heap := h3 } := by
        rw [hf]
        refine HandSPX.setFlight_upZ fl3 fun h4 hh4 up4 => wpAny_throw (tk _ _ ?_)
        exact ⟨a, B, sI, pins, σ', H', cls, d, rfl, J, nb, (up.trans up3).trans up4, .inr (.inr (by rw [hs]; exact hh4)), na, os, ag, hno rfl⟩
      first
        | exact wpAny_bind (wpAny_pure (wpAny_bind fin))
        | exact wpAny_bind fin
  · cases f with
    | next =>
      obtain ⟨σ', H', J', q⟩ := hsp
      exact wpAny_execs_nil ⟨σ', H', J'.ofTry ok, q⟩
    | brk =>
      obtain ⟨σ', H', J', q⟩ := hsp
      exact ⟨σ', H', J'.ofTry ok, q⟩
    | cont =>
      obtain ⟨σ', H', J', q⟩ := hsp
      exact ⟨σ', H', J'.ofTry ok, q⟩
    | ret u =>
      obtain ⟨v, σ', H', J', r, q⟩ := hsp
      exact ⟨v, σ', H', J'.ofTry ok, r, q⟩
end

/-- isinstance(x, c), x an error that is held -/
def rIsX (K : PySem.W.Frag) : List V → Hp → VK → Prop := fun xs H Q => ∃ (a D : Addr) (c : V) (cv : Value) (b : Bool), xs = [.ref a, c] ∧ H a = some (ExA (.ref D) a) ∧ ExcC K D ∧ (∀ u, RelV c u → u = cv) ∧ PySem.W.kitOne K (.ref D) cv = some b ∧ Q (.bl b) H
theorem call_isX {X : Cx} : CallR X (.builtin "isinstance") (rIsX X.K) := by
  intro pins s σ H xs us Q I r h
  obtain ⟨a, D, c, cv, b, rfl, ha, C, hcv, e, q⟩ := h
  cases r with
  | cons rx rr =>
    cases rr with
    | cons rt rr =>
      cases rr
      cases rx
      have ec := hcv _ rt
      subst ec
      obtain ⟨⟨oe, vs, hget, hz, hv⟩, _, _⟩ := (show ObjOk X.prog X.w H s.heap a (ExA (.ref D) a) from I.hok a _ ha)
      have J : PySem.W.InstAt s.heap a oe D none := by
        obtain ⟨oc, od, oda, osl⟩ := oe
        obtain ⟨h1, h2⟩ := hz
        dsimp only at h1 h2 hv
        subst h1 h2 hv
        exact ⟨hget, rfl, rfl, trivial⟩
      exact PySem.W.kia_one (PySem.W.handS_kitx_exc C.hg C.hk C.hs C.hd C.ha C.hn C.ht C.hm) I.kIn J e (fun z => nomatch z) fun tk => ⟨.bl b, H, I.kept (t' := tk) fun _ _ z => z, rfl, q⟩

/-! ### a def of the text, its promise -/
def OkD (P : Program) (w : World) (K : PySem.W.Frag) (mg : Str → Option Value) (base : Heap) (d : He.DefD) (k : Nat) (ps : List Str) (sp : Sp) : Prop :=
  ∃ fd, (PySem.W.keepIn K (.ref (He.fAd K d.at_)) = true ∧ ∀ (s : Shared) (us : List Value), us.length = ps.length → BindsTo s fd ⟨us, []⟩ (ps.zip us)) ∧ (Binds K fd ps [] ∧ ∃ oc od osl, K.lookup (He.fAd K d.at_) = some ⟨oc, od, .func fd, osl⟩) ∧ FnOk P w K mg base (L2.CX P w) k (He.fAd K d.at_) fd ps sp
section
variable {P : Program} {w : World} {K : PySem.W.Frag} {mg : Str → Option Value} {base : Heap}
theorem okD {d : He.DefD} {N ps : List Str} {k : Nat} {sp : Sp} (F : ∃ fd, FunD K d.name d.qual d.params d.body d.scope [] [] (He.fAd K d.at_) fd) (S : FnScope N ps d.scope)
    (b : ∀ (kV doc pm : Value) (an : Option Addr) (cdv ct : Value) (us : List Value), us.length = ps.length → bindArgs (PySem.W.fnOf d.name d.qual d.params d.body d.scope .none kV doc pm an cdv ct) ⟨us, []⟩ = pure (ps.zip us))
    (len : ∀ vs H Q E, sp vs H Q E → vs.length = ps.length)
    (body : ∀ (cdv : Value) (A : Around) (outer : List Env) (s : Shared) (H : Hp) (vs : List V) (Q : VK) (E : XK), Room k (A.deeper (envOfC d.qual d.scope s.heap.objs.size (He.fAd K d.at_) cdv)) → sp vs H Q E →
      ∃ t, PSs (cxOf (L2.CX P w) P w K mg base N d.qual d.scope (He.fAd K d.at_) cdv A outer s H E) d.body t ∧ t { nx := fun _ H' => Q .non H', rt := Q } (start N vs) H) : OkD P w K mg base d (k + 1) ps sp := by
  obtain ⟨fd, F⟩ := F
  obtain ⟨oc, od, dV, kV, doc, pm, an, cdv, ct, osl, e, lk, _⟩ := F.ex
  exact ⟨fd, ⟨F.kp, F.bindsA b⟩, ⟨F.bindsN b, oc, od, osl, lk⟩, F.ok S len body⟩
theorem OkD.mono {d : He.DefD} {k j : Nat} {ps : List Str} {sp : Sp} (G : OkD P w K mg base d k ps sp) (h : k ≤ j) : OkD P w K mg base d j ps sp := by
  obtain ⟨fd, h1, h2, h3⟩ := G
  exact ⟨fd, h1, h2, h3.mono h⟩
/-- in a def's body: what is raised leaves the def -/
theorem tkD {N : List Str} {qual : Str} {scope : Scope} {f : Addr} {cd : Value} {A : Around} {outer : List Env} {s : Shared} {H : Hp} {E : XK} : Takes (cxOf (L2.CX P w) P w K mg base N qual scope f cd A outer s H E) (fun cls d _ H => E cls d H) :=
  takes_of rfl rfl rfl rfl
theorem paD {N : List Str} {qual : Str} {scope : Scope} {f : Addr} {cd : Value} {A : Around} {outer : List Env} {s : Shared} {H : Hp} {E : XK} (σ : L2.St) : PassesAt (L2.CX P w) (cxOf (L2.CX P w) P w K mg base N qual scope f cd A outer s H E) σ E :=
  fun pins H1 s1 e s' I c => passes_call tkD (fun _ _ _ _ h => h) pins σ H1 s1 e s' I c
end
/-- nothing is raised -/
theorem paN {X : Cx} (σ : L2.St) : PassesAt (L2.CX X.prog X.w) X σ E0 := fun pins H1 s1 e s' I c => passL pins σ H1 s1 e s' I c
/-- f(..), o.m(..), C(..): what is wanted of an exception hangs on the slots -/
def tMt (C : Addr) (m : Str) (sp : Sp) (E : L2.St → XK) (ta : TE) (t : TA) : TE := fun σ H Q => ta σ H fun x H1 => ∃ a dx fs, x = .ref a ∧ H1 a = some (.ins C dx fs) ∧ fs.lookup m = none ∧ t σ H1 fun vs H2 => sp (x :: vs) H2 Q (E σ)
def tMk (C : Addr) (sp : Sp) (E : L2.St → XK) (t : TA) : TE := fun σ H Q => t σ H fun vs H1 => ∀ x dx, H1 x = none → H1 dx = none → dx ≠ x →
  sp (.ref x :: vs) (upd (upd H1 dx (.own x)) x (.ins C dx [])) (fun v H2 => v = .non ∧ Q (.ref x) H2) (E σ)
section
variable {X : Cx} {d : He.DefD} {k : Nat} {ps : List Str} {sp : Sp} {E : L2.St → XK} {x m C : Str} {p pos apos : Pos} {e o : Expr} {es : List Expr} {ta : TE} {t : TA}
theorem px_call (G : OkD X.prog X.w X.K X.mg X.base d k ps sp) (hr : Room k X.A) (hg : Gl X x) (hm : X.mg x = some (.ref (He.fAd X.K d.at_))) (hx : ∀ σ, PassesAt (L2.CX X.prog X.w) X σ (E σ)) (ha : PA X (e :: es) t)
    (hdb : (x == ("__debug__" : Str)) = false := by decide) (he : starEach (e :: es) X.env = (false, eval e X.env) :: starEach es X.env := by rfl) (hpl : (backTo pos (starEach es X.env)).any (·.1) = false := by rfl) :
    PE X (.Call (.Name x p) (e :: es) [] pos) (tCallS sp E t) := by
  obtain ⟨fd, ⟨hk, _⟩, ⟨hb, _⟩, F⟩ := G
  exact pe_callS F hr hg hm hk hb hx ha hdb he hpl
theorem px_meth {pl : Sem Bool} (G : OkD X.prog X.w X.K X.mg X.base d k ps sp) (hr : Room k X.A) (he : PE X o ta) (c : Cls X.K (He.ga X.K C)) (hm : Meth X.K (He.ga X.K C) m (He.fAd X.K d.at_)) (hx : ∀ σ, PassesAt (L2.CX X.prog X.w) X σ (E σ)) (ha : PA X (e :: es) t)
    (hst : starEach (e :: es) X.env = (false, eval e X.env) :: starEach es X.env := by rfl) (hpl : (backTo pos (starEach es X.env)).any (·.1) = false := by rfl)
    (ht : eval (.Call (.Attribute o m apos) (e :: es) [] pos) X.env = (do
      let ov ← eval o X.env
      standAt apos.atName
      let (f, first) ← holding [ov] (getMethod ov m pl)
      callWith pos f first (backTo pos (starEach (e :: es) X.env)) (backToKw pos (keywordEach [] X.env))) := by rfl) :
    PE X (.Call (.Attribute o m apos) (e :: es) [] pos) (tMt (He.ga X.K C) m sp E ta t) := by
  obtain ⟨fd, ⟨hk, _⟩, ⟨hb, _⟩, F⟩ := G
  refine ⟨fun pins s σ H Q I h => ?_⟩
  refine PySem.W.methodCall_KW (pl := pl) (thn (he.run pins s σ H _ I h) fun u s1 ⟨x, H1, I1, rx, a, dx, fs, ex, ea, l, q⟩ => ?_) ht
  subst ex
  obtain rfl : u = Value.ref a := rx
  refine getmeth_ok I1 ea c hm l ?_
  refine PySem.W.callWith_K (first := [.ref a]) (h₀ := X.base) I.ok.mod.kin hm.kp (thn (ha.run pos pins s1 σ H1 _ I1 q) fun us s2 ⟨vs, H2, I2, r, q2⟩ => ⟨I2.kIn, ?_⟩) hst hpl
  exact run_fnS (us := .ref a :: us) (vs := .ref a :: vs) F hr hb (hx σ) I2 (.cons rfl r) q2
theorem px_meth0 {pl : Sem Bool} (G : OkD X.prog X.w X.K X.mg X.base d k ps sp) (hr : Room k X.A) (he : PE X o ta) (c : Cls X.K (He.ga X.K C)) (hm : Meth X.K (He.ga X.K C) m (He.fAd X.K d.at_)) (hx : ∀ σ, PassesAt (L2.CX X.prog X.w) X σ (E σ))
    (ht : eval (.Call (.Attribute o m apos) [] [] pos) X.env = (do
      let ov ← eval o X.env
      standAt apos.atName
      let (f, first) ← holding [ov] (getMethod ov m pl)
      callWith pos f first (backTo pos (starEach [] X.env)) (backToKw pos (keywordEach [] X.env))) := by rfl) :
    PE X (.Call (.Attribute o m apos) [] [] pos) (tMt (He.ga X.K C) m sp E ta tNil) := by
  obtain ⟨fd, ⟨hk, _⟩, ⟨hb, _⟩, F⟩ := G
  refine ⟨fun pins s σ H Q I h => ?_⟩
  refine PySem.W.methodCall_KW (pl := pl) (thn (he.run pins s σ H _ I h) fun u s1 ⟨x, H1, I1, rx, a, dx, fs, ex, ea, l, q⟩ => ?_) ht
  subst ex
  obtain rfl : u = Value.ref a := rx
  refine getmeth_ok I1 ea c hm l ?_
  exact PySem.W.callWith_K0 (first := [.ref a]) I1.kIn hm.kp (run_fnS (us := [.ref a]) (vs := [.ref a]) F hr hb (hx σ) I1 (.cons rfl .nil) q)
theorem run_makeS {C f : Addr} {fd : FuncData} {pins : List (Addr × Obj)} {σ : L2.St} {H : Hp} {s : Shared} {Q : VK} {us : List Value} {vs : List V} (M : Mk X.K C f) (F : FnOk X.prog X.w X.K X.mg X.base (L2.CX X.prog X.w) k f fd ps sp) (hr : Room (k + 1) X.A) (hb : Binds X.K fd ps [])
    (hx : PassesAt (L2.CX X.prog X.w) X σ (E σ)) (I : Inv X pins σ H s) (r : Vals vs us)
    (h : ∀ x dx, H x = none → H dx = none → dx ≠ x → sp (.ref x :: vs) (upd (upd H dx (.own x)) x (.ins C dx [])) (fun v H2 => v = .non ∧ Q (.ref x) H2) (E σ)) :
    wpAny (model X.prog X.w) X.A (call (.ref C) us) (EP X pins σ Q) X.xe s := by
  have hq := h (s.heap.objs.size + 1) s.heap.objs.size (I.hok.fresh (Nat.le_succ _)) (I.hok.fresh (Nat.le_refl _)) (Nat.ne_of_lt (Nat.lt_succ_self _))
  have I2 := Inv.made (C := C) I
  have r2 : Vals (V.ref (s.heap.objs.size + 1) :: vs) (Value.ref (s.heap.objs.size + 1) :: us) := .cons rfl r
  have hl : (Value.ref (s.heap.objs.size + 1) :: us).length = ps.length := by
    have e := r2.length
    rw [F.len _ _ _ _ hq] at e
    exact e.symm
  have b := hb _ (Value.ref (s.heap.objs.size + 1) :: us) I2.kIn (by rw [List.append_nil]; exact hl)
  rw [List.append_nil] at b
  refine wpAny_call (make_map (f := f) I.kIn M.makes M.init (beq_iff_eq.mp M.fn) (codeAny_mono (F.run _ X.stack _ _ ⟨Value.ref (s.heap.objs.size + 1) :: us, []⟩ (Value.ref (s.heap.objs.size + 1) :: us) _ _ (E σ) (hr.make C us [])
    (I2.env0.make C us []) b r2 hq) fun r s' hq' => ?_))
  cases r with
  | error e => exact hx pins _ _ e s' I2 hq'
  | ok fl =>
    cases fl with
    | ret u =>
      obtain ⟨v, H', I3, rv, ev, q3⟩ := I2.after hq'
      subst ev
      exact ⟨rv, ⟨V.ref (s.heap.objs.size + 1), H', I3, rfl, q3⟩⟩
    | next => exact False.elim hq'
    | brk => exact False.elim hq'
    | cont => exact False.elim hq'
theorem px_make {C : Addr} (G : OkD X.prog X.w X.K X.mg X.base d k ps sp) (hr : Room (k + 1) X.A) (M : Mk X.K C (He.fAd X.K d.at_)) (hg : Gl X x) (hm : X.mg x = some (.ref C)) (hx : ∀ σ, PassesAt (L2.CX X.prog X.w) X σ (E σ)) (ha : PA X (e :: es) t)
    (hdb : (x == ("__debug__" : Str)) = false := by decide) (he : starEach (e :: es) X.env = (false, eval e X.env) :: starEach es X.env := by rfl) (hpl : (backTo pos (starEach es X.env)).any (·.1) = false := by rfl) :
    PE X (.Call (.Name x p) (e :: es) [] pos) (tMk C sp E t) := by
  obtain ⟨fd, ⟨hk, _⟩, ⟨hb, _⟩, F⟩ := G
  refine ⟨fun pins s σ H Q I h => ?_⟩
  refine wpAny_Call_Name_kw (ld_glob I hg hm ?_ hdb)
  refine PySem.W.callWith_K (h₀ := X.base) I.ok.mod.kin M.kp (thn (ha.run pos pins s σ H _ I h) fun us s1 ⟨vs, H1, I1, r, q⟩ => ⟨I1.kIn, ?_⟩) he hpl
  exact run_makeS M F hr hb (hx σ) I1 r q
theorem px_make0 {C : Addr} (G : OkD X.prog X.w X.K X.mg X.base d k ps sp) (hr : Room (k + 1) X.A) (M : Mk X.K C (He.fAd X.K d.at_)) (hg : Gl X x) (hm : X.mg x = some (.ref C)) (hx : ∀ σ, PassesAt (L2.CX X.prog X.w) X σ (E σ))
    (hdb : (x == ("__debug__" : Str)) = false := by decide) :
    PE X (.Call (.Name x p) [] [] pos) (tMk C sp E tNil) := by
  obtain ⟨fd, ⟨hk, _⟩, ⟨hb, _⟩, F⟩ := G
  refine ⟨fun pins s σ H Q I h => ?_⟩
  refine wpAny_Call_Name_kw (ld_glob I hg hm ?_ hdb)
  exact PySem.W.callWith_K0 I.kIn M.kp (run_makeS (us := []) M F hr hb (hx σ) I .nil h)
/-- an int, a text of the module; a def, a class -/
theorem px_int {i : Int} (hg : Gl X x) (hm : ∃ t, X.mg x = some (.int i t)) (hd : (x == ("__debug__" : Str)) = false := by decide) : PE X (.Name x pos) (tC (.int i)) := by
  obtain ⟨t, hm⟩ := hm
  exact pe_glob hg hm ⟨t, rfl⟩ hd
theorem px_str {z : Str} (hg : Gl X x) (hm : ∃ t, X.mg x = some (.str z t)) (hd : (x == ("__debug__" : Str)) = false := by decide) : PE X (.Name x pos) (tC (.str z)) := by
  obtain ⟨t, hm⟩ := hm
  exact pe_glob hg hm ⟨t, rfl⟩ hd
theorem px_ref {a : Addr} (hg : Gl X x) (hm : X.mg x = some (.ref a)) (hd : (x == ("__debug__" : Str)) = false := by decide) : PE X (.Name x pos) (tC (.ref a)) := pe_glob hg hm rfl hd
/-- raise C('..') -/
def tRz (W : WX) (C : Addr) : TS := fun _ σ H => W (.ref C) none σ H
theorem px_raise {C : Addr} {W : WX} {ms : Str} {j : Nat} {p2 pos' : Pos} (hc : X.calm = true) (tk : Takes X W) (hg : Gl X x) (gC : X.mg x = some (.ref C))
    (xC : PySem.W.excIn X.K C He.veBase "ValueError.__new__" = true ∧ PySem.W.keepIn X.K (.ref C) = true ∧ PySem.W.subIn X.K (.ref C) (.type "BaseException") = some true ∧ PySem.W.typeIn X.K (.ref C) = some (.type "type"))
    (hdb : (x == ("__debug__" : Str)) = false := by decide) :
    PS X (.Raise (some (.Call (.Name x p) [.Constant (.str ms) j p2] [] pos)) none pos') (tRz W C) :=
  ps_raise hc tk (pmk_own PySem.F.excBase_ValueError xC.1 gC xC.2.1 (raises_own xC.2.2.1 xC.2.2.2) hg hdb)
end
end TR

set_option Elab.async false
set_option linter.all false
set_option maxRecDepth 100000
set_option maxHeartbeats 4000000
/-! The readings step by step, over assertions side by side. -/
namespace TR
open PySem PySem.Spec PyProof.Rows L2

/-! ### what is wanted behind a part, by names (so that it stays whole) -/
def kTest (QT : Bool → Hp → Prop) : VK := fun x H => ∃ k, x = .bl k ∧ QT k H
def kNot (QT : Bool → Hp → Prop) : Bool → Hp → Prop := fun c H => QT (!c) H
def kAnd (u : TT) (σ : L2.St) (QT : Bool → Hp → Prop) : Bool → Hp → Prop := fun c H => if c = true then u σ H QT else QT false H
def kOr (u : TT) (σ : L2.St) (QT : Bool → Hp → Prop) : Bool → Hp → Prop := fun c H => if c = true then QT true H else u σ H QT
def kOp2 (r : R2) (x : V) (Q : VK) : VK := fun y H => r x y H Q
def kOp1 (r : R2) (tb : TE) (σ : L2.St) (Q : VK) : VK := fun x H => tb σ H (kOp2 r x Q)
def kUn (r : V → Hp → VK → Prop) (Q : VK) : VK := fun x H => r x H Q
def kCh3 (r' : R2) (tc : TE) (σ : L2.St) (y : V) (Q : VK) : VK := fun z H => ∃ k, z = .bl k ∧ (if k = true then tc σ H (kOp2 r' y Q) else Q (.bl false) H)
def kCh2 (r r' : R2) (tc : TE) (σ : L2.St) (x : V) (Q : VK) : VK := fun y H => r x y H (kCh3 r' tc σ y Q)
def kCh1 (r r' : R2) (tb tc : TE) (σ : L2.St) (Q : VK) : VK := fun x H => tb σ H (kCh2 r r' tc σ x Q)
def kAndV (tb : TE) (σ : L2.St) (Q : VK) : VK := fun x H => ∃ c, x = .bl c ∧ if c = true then tb σ H Q else Q (.bl false) H
def kOrV (tb : TE) (σ : L2.St) (Q : VK) : VK := fun x H => ∃ c, x = .bl c ∧ if c = true then Q (.bl true) H else tb σ H Q
def kNotV (Q : VK) : VK := fun x H => ∃ c, x = .bl c ∧ Q (.bl (!c)) H
def kIfE (ta tb : TE) (σ : L2.St) (Q : VK) : Bool → Hp → Prop := fun c H => if c = true then ta σ H Q else tb σ H Q
def kIfS (t u : TS) (D : Ends) (σ : L2.St) : Bool → Hp → Prop := fun c H => if c = true then t D σ H else u D σ H
def kTru (K : PySem.W.Frag) (QT : Bool → Hp → Prop) : VK := fun x H => ∃ k, TruV K x H k ∧ QT k H
def kC2 (x : V) (QA : List V → Hp → Prop) : List V → Hp → Prop := fun xs H => QA (x :: xs) H
def kC1 (tr : TA) (σ : L2.St) (QA : List V → Hp → Prop) : VK := fun x H => tr σ H (kC2 x QA)
def kCb (r : List V → Hp → VK → Prop) (Q : VK) : List V → Hp → Prop := fun vs H => r vs H Q
def kSp (sp : Sp) (E : XK) (Q : VK) : List V → Hp → Prop := fun vs H => sp vs H Q E
def kMt2 (sp : Sp) (E : XK) (x : V) (Q : VK) : List V → Hp → Prop := fun vs H => sp (x :: vs) H Q E
def kMt (C : Addr) (m : Str) (sp : Sp) (E : XK) (tr : TA) (σ : L2.St) (Q : VK) : VK := fun x H => ∃ a dx fs, x = .ref a ∧ H a = some (.ins C dx fs) ∧ fs.lookup m = none ∧ tr σ H (kMt2 sp E x Q)
def kMq (x : Addr) (Q : VK) : VK := fun v H => v = .non ∧ Q (.ref x) H
def kMk (C : Addr) (sp : Sp) (E : XK) (Q : VK) : List V → Hp → Prop := fun vs H => ∀ x dx, H x = none → H dx = none → dx ≠ x → sp (.ref x :: vs) (upd (upd H dx (.own x)) x (.ins C dx [])) (kMq x Q) E
def kLst (Q : VK) : List V → Hp → Prop := fun xs H => xs.length ≤ sizeLine ∧ ∀ p, H p = none → Q (.ref p) (upd H p (.lst xs))
def kTup (Q : VK) : List V → Hp → Prop := fun xs H => xs.length ≤ sizeLine ∧ ∀ p, H p = none → Q (.ref p) (upd H p (.tup xs))
def kFld (K : PySem.W.Frag) (f : Str) (Q : VK) : VK := fun x H => ∃ a C dx fs v, x = .ref a ∧ H a = some (.ins C dx fs) ∧ Cls K C ∧ NoAttr K C f ∧ fs.lookup f = some v ∧ Q v H
def kPut (K : PySem.W.Frag) (f : Str) (y : V) (D : Ends) (σ : L2.St) : VK := fun x H => ∃ a C dx fs, x = .ref a ∧ H a = some (.ins C dx fs) ∧ Cls K C ∧ NoAttr K C f ∧ fs.length < 1000 ∧ D.nx σ (upd H a (.ins C dx (putF f y fs)))
def kSf (K : PySem.W.Frag) (ta : TE) (f : Str) (D : Ends) (σ : L2.St) : VK := fun y H => ta σ H (kPut K f y D σ)
def kAsg (g : TG) (D : Ends) (σ : L2.St) : VK := fun x H => g x σ H D.nx
def kDrop (D : Ends) (σ : L2.St) : VK := fun _ H => D.nx σ H
def kBM (K : PySem.W.Frag) (T : String) (r : V → List V → Hp → VK → Prop) (tr : TA) (σ : L2.St) (Q : VK) : VK := fun x H => tyV K T x H ∧ tr σ H fun xs H2 => r x xs H2 Q
def kBM0 (K : PySem.W.Frag) (T : String) (r : V → List V → Hp → VK → Prop) (Q : VK) : VK := fun x H => tyV K T x H ∧ r x [] H Q
def kBq (r : V → List V → Hp → VK → Prop) (x : V) (Q : VK) : List V → Hp → Prop := fun xs H => r x xs H Q
def kSb2 (g : TSet) (o v : V) (QS : L2.St → Hp → Prop) (σ : L2.St) : VK := fun i H => g o i v H (QS σ)
def kSb1 (ti : TE) (g : TSet) (v : V) (QS : L2.St → Hp → Prop) (σ : L2.St) : VK := fun o H => ti σ H (kSb2 g o v QS σ)
def kG (tg : TGs) (xs : List V) (QS : L2.St → Hp → Prop) : L2.St → Hp → Prop := fun σ H => tg xs σ H QS
def kRev (K : PySem.W.Frag) (Q : VK) : VK := fun x H => ∃ a xs, x = .ref a ∧ SqL K H a xs ∧ ∀ p, H p = none → Q (.ref p) (upd H p (.lst xs.reverse))
def kSl3 (r : V → Option Int → Option Int → Hp → VK → Prop) (x : V) (lo : Option Int) (Q : VK) : Option Int → Hp → Prop := fun u H => r x lo u H Q
def kSl2 (r : V → Option Int → Option Int → Hp → VK → Prop) (th : TO) (σ : L2.St) (x : V) (Q : VK) : Option Int → Hp → Prop := fun l H => th σ H (kSl3 r x l Q)
def kSl1 (r : V → Option Int → Option Int → Hp → VK → Prop) (tl th : TO) (σ : L2.St) (Q : VK) : VK := fun x H => tl σ H (kSl2 r th σ x Q)
def kPart (QO : Option Int → Hp → Prop) : VK := fun x H => ∃ i, x = .int i ∧ QO (some i) H
/-- a value's truth, as a test -/
def tTru (K : PySem.W.Frag) (ta : TE) : TT := fun σ H QT => ta σ H (kTru K QT)
theorem px_truth {X : Cx} {a : Expr} {ta : TE} (ha : PE X a ta) (he : ∀ whole, isTrue a X.env whole = (do let v ← whole; standAt a.pos; holding [v] (truthy v))) : PT X a (tTru X.K ta) := pt_truth ha he

section
variable {K : PySem.W.Frag} {σ : L2.St} {H : Hp} {i : Nat} {v x y z : V} {ta tb tc te tv to ti : TE} {tA tB' : TT} {t u : TS} {D : Ends} {Q : VK} {p : Addr} {L R : List As} {QT : Bool → Hp → Prop} {QA : List V → Hp → Prop} {QS : L2.St → Hp → Prop}

/-! ### expressions -/
theorem x_var (h : σ[i]? = some (some v)) (q : Q v H) : tVar i σ H Q := ⟨v, h, q⟩
theorem x_c (q : Q v H) : tC v σ H Q := q
theorem x_op {r : R2} (q : ta σ H (kOp1 r tb σ Q)) : tOp r ta tb σ H Q := q
theorem y_op1 {r : R2} (q : tb σ H (kOp2 r x Q)) : kOp1 r tb σ Q x H := q
theorem y_op2 {r : R2} (q : r x y H Q) : kOp2 r x Q y H := q
theorem x_un {r : V → Hp → VK → Prop} (q : ta σ H (kUn r Q)) : tUn r ta σ H Q := q
theorem y_neg {i : Int} (q : Q (.int (-i)) H) : kUn (rU fun i => .int (-i)) Q (.int i) H := ⟨i, rfl, q⟩
theorem x_I0 {g : Int → Int → V} {i j : Int} (q : Q (g i j) H) : rI0 g (.int i) (.int j) H Q := ⟨i, j, rfl, rfl, q⟩
theorem x_I {C : Int → Int → Prop} {g : Int → Int → V} {i j : Int} (c : C i j) (q : Q (g i j) H) : rI C g (.int i) (.int j) H Q := ⟨i, j, rfl, rfl, c, q⟩
theorem x_if (q : tA σ H (kIfE ta tb σ Q)) : tIf tA ta tb σ H Q := q
theorem y_ifE {c : Bool} (q : if c = true then ta σ H Q else tb σ H Q) : kIfE ta tb σ Q c H := q
theorem x_nil (q : QA [] H) : tNil σ H QA := q
theorem x_cons {tr : TA} (q : ta σ H (kC1 tr σ QA)) : tCons ta tr σ H QA := q
theorem y_c1 {tr : TA} (q : tr σ H (kC2 x QA)) : kC1 tr σ QA x H := q
theorem y_c2 {xs : List V} (q : QA (x :: xs) H) : kC2 x QA xs H := q
theorem x_cb {r : List V → Hp → VK → Prop} {tr : TA} (q : tr σ H (kCb r Q)) : tCB r tr σ H Q := q
theorem y_cb {r : List V → Hp → VK → Prop} {vs : List V} (q : r vs H Q) : kCb r Q vs H := q

/-! ### tests -/
theorem x_test (q : te σ H (kTest QT)) : tTest te σ H QT := q
theorem x_tB (q : te σ H (kTest QT)) : tB te σ H QT := q
theorem y_test {b : Bool} (q : QT b H) : kTest QT (.bl b) H := ⟨b, rfl, q⟩
theorem x_not (q : tA σ H (kNot QT)) : tNot tA σ H QT := q
theorem y_not {c : Bool} (q : QT (!c) H) : kNot QT c H := q
theorem x_and (q : tA σ H (kAnd tB' σ QT)) : tAnd tA tB' σ H QT := q
theorem y_and {c : Bool} (q : if c = true then tB' σ H QT else QT false H) : kAnd tB' σ QT c H := q
theorem x_or (q : tA σ H (kOr tB' σ QT)) : tOr tA tB' σ H QT := q
theorem y_or {c : Bool} (q : if c = true then QT true H else tB' σ H QT) : kOr tB' σ QT c H := q
theorem x_chain {r r' : R2} (q : ta σ H (kCh1 r r' tb tc σ Q)) : tChain r r' ta tb tc σ H Q := q
theorem y_ch1 {r r' : R2} (q : tb σ H (kCh2 r r' tc σ x Q)) : kCh1 r r' tb tc σ Q x H := q
theorem y_ch2 {r r' : R2} (q : r x y H (kCh3 r' tc σ y Q)) : kCh2 r r' tc σ x Q y H := q
theorem y_ch3 {r' : R2} {k : Bool} (q : if k = true then tc σ H (kOp2 r' y Q) else Q (.bl false) H) : kCh3 r' tc σ y Q (.bl k) H := ⟨k, rfl, q⟩
theorem x_andV (q : ta σ H (kAndV tb σ Q)) : tAndV ta tb σ H Q := q
theorem y_andV {c : Bool} (q : if c = true then tb σ H Q else Q (.bl false) H) : kAndV tb σ Q (.bl c) H := ⟨c, rfl, q⟩
theorem x_orV (q : ta σ H (kOrV tb σ Q)) : tOrV ta tb σ H Q := q
theorem y_orV {c : Bool} (q : if c = true then Q (.bl true) H else tb σ H Q) : kOrV tb σ Q (.bl c) H := ⟨c, rfl, q⟩
theorem x_notV (q : ta σ H (kNotV Q)) : tNotV ta σ H Q := q
theorem y_notV {c : Bool} (q : Q (.bl (!c)) H) : kNotV Q (.bl c) H := ⟨c, rfl, q⟩
theorem x_tt {A B : Prop} (a : A) : if true = true then A else B := by
  rw [if_pos rfl]
  exact a
theorem x_ff {A B : Prop} (b : B) : if false = true then A else B := by
  rw [if_neg Bool.false_ne_true]
  exact b
theorem x_dec {φ : Prop} [d : Decidable φ] {A B : Prop} (a : φ → A) (b : ¬ φ → B) : if decide φ = true then A else B := by
  by_cases h : φ
  · rw [if_pos (decide_eq_true h)]
    exact a h
  · rw [if_neg (by rw [decide_eq_false h]; exact Bool.false_ne_true)]
    exact b h
theorem x_ndec {φ : Prop} [d : Decidable φ] {A B : Prop} (a : ¬ φ → A) (b : φ → B) : if (!decide φ) = true then A else B := by
  by_cases h : φ
  · rw [decide_eq_true h, if_neg (by decide)]
    exact b h
  · rw [decide_eq_false h, if_pos (by decide)]
    exact a h
theorem x_bool {c : Bool} {A B : Prop} (a : c = true → A) (b : c = false → B) : if c = true then A else B := by
  cases c with
  | true => exact x_tt (a rfl)
  | false => exact x_ff (b rfl)
theorem x_nbool {c : Bool} {A B : Prop} (a : c = false → A) (b : c = true → B) : if (!c) = true then A else B := by
  cases c with
  | true => exact x_ff (b rfl)
  | false => exact x_tt (a rfl)
theorem x_yes {c : Bool} {A B : Prop} (h : c = true) (a : A) : if c = true then A else B := by
  rw [if_pos h]
  exact a
theorem x_no {c : Bool} {A B : Prop} (h : c = false) (b : B) : if c = true then A else B := by
  rw [if_neg (by rw [h]; exact Bool.false_ne_true)]
  exact b
theorem x_nt {A B : Prop} (a : A) : if (!false) = true then A else B := x_tt a
theorem x_nf {A B : Prop} (b : B) : if (!true) = true then A else B := x_ff b
/-- a value's truth -/
theorem x_tru (q : ta σ H (kTru K QT)) : tTru K ta σ H QT := q
theorem y_trub {b : Bool} (q : QT b H) : kTru K QT (.bl b) H := ⟨b, rfl, q⟩
theorem y_trui {i : Int} (q : QT (i != 0) H) : kTru K QT (.int i) H := ⟨_, rfl, q⟩
theorem y_trun (q : QT false H) : kTru K QT .non H := ⟨_, rfl, q⟩
theorem y_trul {xs : List V} (h : SqL K H p xs) (q : QT (!xs.isEmpty) H) : kTru K QT (.ref p) H := ⟨_, .inl ⟨xs, h, rfl⟩, q⟩

/-! ### statements -/
theorem x_seq (q : t { D with nx := u D } σ H) : tSeq t u D σ H := q
theorem x_next (q : D.nx σ H) : tNext D σ H := q
theorem x_asg {g : TG} (q : te σ H (kAsg g D σ)) : tAsg te g D σ H := q
theorem y_asg {g : TG} (q : g x σ H D.nx) : kAsg g D σ x H := q
theorem x_name (q : QS (σ.set i (some v)) H) : gName i v σ H QS := q
theorem x_drop (q : te σ H (kDrop D σ)) : tDrop te D σ H := q
theorem y_drop (q : D.nx σ H) : kDrop D σ x H := q
theorem x_ret (q : te σ H D.rt) : tRet te D σ H := q
theorem x_retN (q : D.rt .non H) : tRetN D σ H := q
theorem x_ifS {c : TT} (q : c σ H (kIfS t u D σ)) : tIfS c t u D σ H := q
theorem y_ifS {c : Bool} (q : if c = true then t D σ H else u D σ H) : kIfS t u D σ c H := q
theorem x_cont (q : D.ct σ H) : tCont D σ H := q
theorem x_brk (q : D.bk σ H) : tBreak D σ H := q

/-! ### objects -/
class Fd (fs : List (Str × V)) (f : Str) (v : outParam V) : Prop where
  look : fs.lookup f = some v
  len : fs.length < 1000
class Fp (fs : List (Str × V)) (f : Str) (v : V) (fs' : outParam (List (Str × V))) : Prop where
  put : putF f v fs = fs'
  len : fs.length < 1000
class Fn (fs : List (Str × V)) (m : Str) : Prop where
  none : fs.lookup m = none
class FldI (K : PySem.W.Frag) (C : Addr) (f : Str) : Prop where
  cl : Cls K C
  na : NoAttr K C f
theorem x_fld {f : Str} (q : ta σ H (kFld K f Q)) : tFld K ta f σ H Q := q
theorem y_fld {f : Str} {C dx : Addr} {fs : List (Str × V)} (hS : Sep L H) [a : At p L (.ins C dx fs) R] [i : FldI K C f] [w : Fd fs f v] (q : Q v H) : kFld K f Q (.ref p) H :=
  ⟨p, C, dx, fs, v, rfl, hS.at_, i.cl, i.na, w.look, q⟩
theorem x_sfld {f : Str} (q : tv σ H (kSf K ta f D σ)) : sFld K ta tv f D σ H := q
theorem y_sf {f : Str} (q : ta σ H (kPut K f y D σ)) : kSf K ta f D σ y H := q
theorem y_put {f : Str} {C dx : Addr} {fs fs' : List (Str × V)} (hS : Sep L H) [a : At p L (.ins C dx fs) R] [i : FldI K C f] [w : Fp fs f y fs'] (q : ∀ H', Sep (pt p (.ins C dx fs') :: R) H' → D.nx σ H') : kPut K f y D σ (.ref p) H :=
  ⟨p, C, dx, fs, rfl, hS.at_, i.cl, i.na, w.len, by rw [w.put]; exact q _ (Sep.put (o := .ins C dx fs) (fun z => z) (a.en H hS))⟩
theorem x_meth {C : Addr} {m : Str} {sp : Sp} {E : L2.St → XK} {tr : TA} (q : ta σ H (kMt C m sp (E σ) tr σ Q)) : tMt C m sp E ta tr σ H Q := q
/-- at p an instance of the class at C, of these fields -/
class IsOb (A : As) (p : Addr) (C : outParam Addr) (nm : outParam (List Str)) : Prop where
  ob : ∀ h, A h → ∃ dx vs, h p = some (.ins C dx (nm.zip vs))
instance {p C dx : Addr} {nm : List Str} {vs : List V} : IsOb (pt p (.ins C dx (nm.zip vs))) p C nm := ⟨fun h a => ⟨dx, vs, a⟩⟩
class NotF (nm : List Str) (m : Str) : Prop where
  no : m ∉ nm
theorem look_none : ∀ {nm : List Str} {vs : List V} {f : Str}, f ∉ nm → (nm.zip vs).lookup f = none
  | [], _, _, _ => by simp [List.lookup]
  | _ :: _, [], _, _ => by simp [List.lookup]
  | g :: nm, x :: vs, f, h => by
    have ne : (f == g) = false := beq_eq_false_iff_ne.mpr fun e => h (by rw [e]; exact List.mem_cons_self)
    show List.lookup f ((g, x) :: nm.zip vs) = none
    rw [List.lookup_cons, ne]
    exact look_none fun z => h (List.mem_cons_of_mem _ z)
theorem y_meth {C : Addr} {m : Str} {nm : List Str} {A : As} {sp : Sp} {E : XK} {tr : TA} (hS : Sep L H) [a : AtA p L A R] [o : IsOb A p C nm] [w : NotF nm m] (q : tr σ H (kMt2 sp E (.ref p) Q)) : kMt C m sp E tr σ Q (.ref p) H := by
  obtain ⟨h1, h2, s1, s2, d, ha, r⟩ := a.en H hS
  obtain ⟨dx, vs, e⟩ := o.ob h1 ha
  exact ⟨p, dx, _, rfl, s1 _ _ e, look_none w.no, q⟩
theorem y_mt2 {sp : Sp} {E : XK} {vs : List V} (q : sp (x :: vs) H Q E) : kMt2 sp E x Q vs H := q
theorem x_callS {sp : Sp} {E : L2.St → XK} {tr : TA} (q : tr σ H (kSp sp (E σ) Q)) : tCallS sp E tr σ H Q := q
theorem y_sp {sp : Sp} {E : XK} {vs : List V} (q : sp vs H Q E) : kSp sp E Q vs H := q
theorem x_make {C : Addr} {sp : Sp} {E : L2.St → XK} {tr : TA} (q : tr σ H (kMk C sp (E σ) Q)) : tMk C sp E tr σ H Q := q
theorem y_mk {C : Addr} {sp : Sp} {E : XK} {vs : List V} (hS : Sep L H) (q : ∀ x dx H', Sep (pt x (.ins C dx []) :: L) H' → sp (.ref x :: vs) H' (kMq x Q) E) : kMk C sp E Q vs H := fun x dx nx nd ne =>
  q x dx _ (Sep.new (by rw [upd_ne (Ne.symm ne)]; exact nx) (Sep.newd nd hS))
theorem y_mq (q : Q (.ref p) H) : kMq p Q .non H := ⟨rfl, q⟩
theorem x_rz {W : WX} {C : Addr} (q : W (.ref C) none σ H) : tRz W C D σ H := q

/-! ### lists, tuples -/
theorem x_lst {tr : TA} (q : tr σ H (kLst Q)) : tLst tr σ H Q := q
theorem y_lst {xs : List V} (hS : Sep L H) (h : xs.length ≤ sizeLine) (q : ∀ p H', Sep (pt p (.lst xs) :: L) H' → Q (.ref p) H') : kLst Q xs H := ⟨h, fun p hp => q p _ (Sep.new hp hS)⟩
theorem x_tup {tr : TA} (q : tr σ H (kTup Q)) : tTup tr σ H Q := q
theorem y_tup {xs : List V} (hS : Sep L H) (h : xs.length ≤ sizeLine) (q : ∀ p H', Sep (pt p (.tup xs) :: L) H' → Q (.ref p) H') : kTup Q xs H := ⟨h, fun p hp => q p _ (Sep.new hp hS)⟩
/-- a list that may be read: tracked, known, or of the module -/
theorem sqL {xs : List V} (hS : Sep L H) [a : At p L (.lst xs) R] : SqL K H p xs := .of hS.at_
theorem sqT {xs : List V} (hS : Sep L H) [a : At p L (.tup xs) R] : SqT K H p xs := .of hS.at_
/-- the list at p is to be read -/
def Li (K : PySem.W.Frag) (p : Addr) (xs : List V) : As := fun h => SqL K h p xs
theorem Rd.sb {H H' : Hp} {a : Addr} {u : HO} (s : Sb H H') (r : Rd H a u) : Rd H' a u := by
  rcases r with r | ⟨o, r⟩
  · exact .inl (s _ _ r)
  · exact .inr ⟨o, s _ _ r⟩
theorem SqL.sb {H H' : Hp} {a : Addr} {xs : List V} (s : Sb H H') (r : SqL K H a xs) : SqL K H' a xs := by
  rcases r with r | r
  · exact .inl (Rd.sb s r)
  · exact .inr r
theorem SqT.sb {H H' : Hp} {a : Addr} {xs : List V} (s : Sb H H') (r : SqT K H a xs) : SqT K H' a xs := by
  rcases r with r | r
  · exact .inl (Rd.sb s r)
  · exact .inr r
theorem Sep.li {xs : List V} (h : Sep (Li K p xs :: R) H) : SqL K H p xs := by
  obtain ⟨h1, h2, s1, s2, d, a, r⟩ := h
  exact SqL.sb s1 a
theorem Sep.liOf {xs : List V} (h : Sep L H) [a : Pk (Li K p xs) L R] : SqL K H p xs := (h.to (A := Li K p xs)).li
/-- xs[i] -/
theorem x_ixL {xs : List V} {i : Int} (h : SqL K H p xs) (e : atI xs i = some v) (q : Q v H) : rIx K (.ref p) (.int i) H Q := .inl ⟨p, xs, i, v, rfl, rfl, h, e, q⟩
theorem x_ixT {xs : List V} {i : Int} (h : SqT K H p xs) (e : atI xs i = some v) (q : Q v H) : rIx K (.ref p) (.int i) H Q := .inr (.inl ⟨p, xs, i, v, rfl, rfl, h, e, q⟩)
theorem atI_some {α : Type} {xs : List α} {i : Int} {v : α} (h0 : 0 ≤ i) (h : xs[i.toNat]? = some v) : atI xs i = some v := by
  have e : i = ((i.toNat : Nat) : Int) := by omega
  rw [e]
  exact atI_nat h
theorem ixN_some {n : Nat} {i : Int} (h0 : 0 ≤ i) (h1 : i < n) : ixN n i = some i.toNat := by
  unfold ixN
  rw [if_pos h0, if_pos h1]
/-- xs[i] = v -/
theorem x_sub {g : TSet} (q : to σ H (kSb1 ti g v QS σ)) : gSub to ti g v σ H QS := q
theorem y_sb1 {g : TSet} {o : V} (q : ti σ H (kSb2 g o v QS σ)) : kSb1 ti g v QS σ o H := q
theorem y_setL {xs : List V} {i : Int} {j : Nat} (hS : Sep L H) [a : At p L (.lst xs) R] (e : ixN xs.length i = some j) (q : ∀ H', Sep (pt p (.lst (xs.set j v)) :: R) H' → QS σ H') : kSb2 rSetL (.ref p) v QS σ (.int i) H :=
  ⟨p, xs, i, j, rfl, rfl, hS.at_, e, q _ (Sep.put (o := .lst xs) (fun z => z) (a.en H hS))⟩
/-- a built-in's method -/
theorem x_bm {T : String} {r : V → List V → Hp → VK → Prop} {tr : TA} (q : to σ H (kBM K T r tr σ Q)) : tBM K T r to tr σ H Q := q
theorem y_bm {T : String} {r : V → List V → Hp → VK → Prop} {tr : TA} (h : tyV K T x H) (q : tr σ H (kBq r x Q)) : kBM K T r tr σ Q x H := ⟨h, q⟩
theorem y_bml {xs : List V} {r : V → List V → Hp → VK → Prop} {tr : TA} (h : SqL K H p xs) (q : tr σ H (kBq r (.ref p) Q)) : kBM K "list" r tr σ Q (.ref p) H := ⟨.inl ⟨rfl, _, h⟩, q⟩
theorem y_bq {r : V → List V → Hp → VK → Prop} {xs : List V} (q : r x xs H Q) : kBq r x Q xs H := q
theorem x_bm0 {T : String} {r : V → List V → Hp → VK → Prop} (q : to σ H (kBM0 K T r Q)) : tBM0 K T r to σ H Q := q
theorem y_bml0 {xs : List V} {r : V → List V → Hp → VK → Prop} (h : SqL K H p xs) (q : r (.ref p) [] H Q) : kBM0 K "list" r Q (.ref p) H := ⟨.inl ⟨rfl, _, h⟩, q⟩
theorem x_append {xs : List V} (hS : Sep L H) [a : At p L (.lst xs) R] (e : xs.length < sizeLine) (q : ∀ H', Sep (pt p (.lst (xs ++ [v])) :: R) H' → Q .non H') : rAppend (.ref p) [v] H Q :=
  ⟨p, xs, v, rfl, rfl, hS.at_, e, q _ (Sep.put (o := .lst xs) (fun z => z) (a.en H hS))⟩
/-- list(xs) -/
def rListOf (K : PySem.W.Frag) : List V → Hp → VK → Prop := fun xs H Q => ∃ p ys, xs = [.ref p] ∧ (SqL K H p ys ∨ SqT K H p ys) ∧ ∀ l, H l = none → Q (.ref l) (upd H l (.lst ys))
theorem call_listOf {X : Cx} : CallR X (.type "list") (rListOf X.K) := call_list_of
theorem x_listOf {xs : List V} (hS : Sep L H) (h : SqL K H p xs) (q : ∀ l H', Sep (pt l (.lst xs) :: L) H' → Q (.ref l) H') : rListOf K [.ref p] H Q := ⟨p, xs, rfl, .inl h, fun l hl => q l _ (Sep.new hl hS)⟩
/-- len -/
def rLen (K : PySem.W.Frag) : List V → Hp → VK → Prop := fun xs H Q => ∃ x n, xs = [x] ∧ LenV K x H n ∧ Q (.int (n : Nat)) H
theorem call_lenA {X : Cx} : CallR X (.builtin "len") (rLen X.K) := call_len
theorem x_lenL {xs : List V} (h : SqL K H p xs) (q : Q (.int (xs.length : Nat)) H) : rLen K [.ref p] H Q := ⟨_, _, rfl, .inl ⟨xs, h, rfl⟩, q⟩
/-- ==, != : scalars, or data -/
def rEqA (K : PySem.W.Frag) : R2 := fun x y H Q => rEq x y H Q ∨ rEqD K x y H Q
def rNeA (K : PySem.W.Frag) : R2 := fun x y H Q => rNe x y H Q ∨ rNeD K x y H Q
theorem op_eqA {X : Cx} (hu : X.A.units + 64 < cLine) : OpR X (compareOp .Eq) (rEqA X.K) := op_eq.or (op_eqD hu)
theorem op_neA {X : Cx} (hu : X.A.units + 64 < cLine) : OpR X (compareOp .NotEq) (rNeA X.K) := op_ne.or (op_neD hu)
theorem dec_V {i j : Int} : decide (V.int i = V.int j) = decide (i = j) := by simp
theorem x_eqI {i j : Int} (q : Q (.bl (decide (i = j))) H) : rEqA K (.int i) (.int j) H Q := .inl ⟨rfl, by rw [dec_V]; exact q⟩
theorem x_neI {i j : Int} (q : Q (.bl (!decide (i = j))) H) : rNeA K (.int i) (.int j) H Q := .inl ⟨rfl, by rw [dec_V]; exact q⟩
theorem x_eqS (h : scal x y = true) (q : Q (.bl (decide (x = y))) H) : rEqA K x y H Q := .inl ⟨h, q⟩
theorem x_neS (h : scal x y = true) (q : Q (.bl (!decide (x = y))) H) : rNeA K x y H Q := .inl ⟨h, q⟩
theorem x_eqD {d e : PyData} (hd : Dp K H x d) (he : Dp K H y e) (sd : SeqAt.shaped d = true) (se : SeqAt.shaped e = true) (q : Q (.bl (PyData.eqv d e)) H) : rEqA K x y H Q := .inr ⟨d, e, hd, he, sd, se, q⟩
theorem x_neD {d e : PyData} (hd : Dp K H x d) (he : Dp K H y e) (sd : SeqAt.shaped d = true) (se : SeqAt.shaped e = true) (q : Q (.bl (!PyData.eqv d e)) H) : rNeA K x y H Q := .inr ⟨d, e, hd, he, sd, se, q⟩
/-- is None -/
def rIsN : R2 := fun x y H Q => y = .non ∧ Q (.bl (decide (x = .non))) H
def rNotN : R2 := fun x y H Q => y = .non ∧ Q (.bl (!decide (x = .non))) H
theorem op_isN1 {X : Cx} : OpR X (compareOp .Is) rIsN := op_isN
theorem op_notN1 {X : Cx} : OpR X (compareOp .IsNot) rNotN := op_notN
theorem x_isN (q : Q (.bl (decide (x = .non))) H) : rIsN x .non H Q := ⟨rfl, q⟩
theorem x_notN (q : Q (.bl (!decide (x = .non))) H) : rNotN x .non H Q := ⟨rfl, q⟩
/-- several targets -/
theorem x_gtup {n : Nat} {tg : TGs} {xs : List V} (h : SqT K H p xs) (e : xs.length = n) (q : tg xs σ H QS) : gTup K n tg (.ref p) σ H QS := ⟨p, xs, rfl, h, e, q⟩
theorem x_gcons {g : TG} {tg : TGs} {xs : List V} (q : g x σ H (kG tg xs QS)) : gCons g tg (x :: xs) σ H QS := ⟨x, xs, rfl, q⟩
theorem y_g {tg : TGs} {xs : List V} (q : tg xs σ H QS) : kG tg xs QS σ H := q
theorem x_gnil (q : QS σ H) : gNil [] σ H QS := ⟨rfl, q⟩
/-- xs[::-1], slices -/
theorem x_rev (q : te σ H (kRev K Q)) : tRevL K te σ H Q := q
theorem y_rev {xs : List V} (hS : Sep L H) (h : SqL K H p xs) (q : ∀ l H', Sep (pt l (.lst xs.reverse) :: L) H' → Q (.ref l) H') : kRev K Q (.ref p) H := ⟨p, xs, rfl, h, fun l hl => q l _ (Sep.new hl hS)⟩
theorem x_sl {r : V → Option Int → Option Int → Hp → VK → Prop} {tl th : TO} (q : te σ H (kSl1 r tl th σ Q)) : tSl r te tl th σ H Q := q
theorem y_sl1 {r : V → Option Int → Option Int → Hp → VK → Prop} {tl th : TO} (q : tl σ H (kSl2 r th σ x Q)) : kSl1 r tl th σ Q x H := q
theorem y_sl2 {r : V → Option Int → Option Int → Hp → VK → Prop} {th : TO} {l : Option Int} (q : th σ H (kSl3 r x l Q)) : kSl2 r th σ x Q l H := q
theorem y_sl3 {r : V → Option Int → Option Int → Hp → VK → Prop} {l u : Option Int} (q : r x l u H Q) : kSl3 r x l Q u H := q
theorem x_nop {QO : Option Int → Hp → Prop} (q : QO none H) : tNoPart σ H QO := q
theorem x_part {QO : Option Int → Hp → Prop} (q : te σ H (kPart QO)) : tPart te σ H QO := q
theorem y_part {QO : Option Int → Hp → Prop} {i : Int} (q : QO (some i) H) : kPart QO (.int i) H := ⟨i, rfl, q⟩
theorem x_slL {xs : List V} {lo hi : Option Int} (hS : Sep L H) (h : SqL K H p xs) (q : ∀ l H', Sep (pt l (.lst (cutV xs lo hi)) :: L) H' → Q (.ref l) H') : rSlL K (.ref p) lo hi H Q := ⟨p, xs, rfl, h, fun l hl => q l _ (Sep.new hl hS)⟩

/-! ### loops -/
/-- for k in range(n): P i, the state behind i turns -/
def kRg1 (g : TG) (t : TS) (D : Ends) (σ : L2.St) : List V → Hp → Prop := fun vs H => ∃ j : Int, vs = [.int j] ∧ -(2 ^ 62) ≤ j ∧ j < 2 ^ 62 ∧ ∃ W : Nat → Nat → L2.St → Hp → Prop, (∃ m, W 0 m σ H) ∧ ∀ i m σ H, W i m σ H →
  ((Itr 0 j.toNat).stop i H ∧ D.nx σ H) ∨ ((Itr 0 j.toNat).go i H ∧ ∃ N : L2.St → Hp → Prop, (∀ σ' H', N σ' H' → ∃ m', m' < m ∧ W (i + 1) m' σ' H') ∧ ∀ x H', (Itr 0 j.toNat).yld i H x H' → g x σ H' fun σ2 H2 => t { D with nx := N, ct := N, bk := D.nx } σ2 H2)
theorem x_for1 {ta : TA} {g : TG} (q : ta σ H (kRg1 g t D σ)) : tFor (iRng1 ta) g t D σ H := q
def kBody (t : TS) (D : Ends) (N : L2.St → Hp → Prop) : L2.St → Hp → Prop := fun σ H => t { D with nx := N, ct := N, bk := D.nx } σ H
theorem y_for1 {n : Nat} {g : TG} (P : Nat → L2.St → Hp → Prop) (hn : n ≤ 1000000) (h0 : P 0 σ H) (hs : ∀ i σ H, i < n → P i σ H → g (.int (i : Nat)) σ H (kBody t D (P (i + 1)))) (hd : ∀ σ H, P n σ H → D.nx σ H) : kRg1 g t D σ [.int (n : Nat)] H :=
  ⟨n, rfl, by omega, by omega, by
    rw [Int.toNat_natCast]
    exact for_range (lo := 0) P h0 (fun i σ H hi p => by rw [Int.zero_add]; exact hs i σ H hi p) hd⟩
theorem y_body {N : L2.St → Hp → Prop} (q : t { D with nx := N, ct := N, bk := D.nx } σ H) : kBody t D N σ H := q
/-- for x in a list -/
def kFl (K : PySem.W.Frag) (g : TG) (t : TS) (D : Ends) (σ : L2.St) : VK := fun x H => ∃ a, x = .ref a ∧ (∃ xs, SqL K H a xs) ∧ ∃ W : Nat → Nat → L2.St → Hp → Prop, (∃ m, W 0 m σ H) ∧ ∀ i m σ H, W i m σ H →
  ((Itl K a).stop i H ∧ D.nx σ H) ∨ ((Itl K a).go i H ∧ ∃ N : L2.St → Hp → Prop, (∀ σ' H', N σ' H' → ∃ m', m' < m ∧ W (i + 1) m' σ' H') ∧ ∀ x H', (Itl K a).yld i H x H' → g x σ H' fun σ2 H2 => t { D with nx := N, ct := N, bk := D.nx } σ2 H2)
theorem x_forL {g : TG} (q : te σ H (kFl K g t D σ)) : tFor (iList K te) g t D σ H := q
theorem y_forL {xs : List V} {g : TG} (P : Nat → L2.St → Hp → Prop) (hx : SqL K H p xs) (h0 : P 0 σ H) (hl : ∀ i σ H, i ≤ xs.length → P i σ H → SqL K H p xs) (hs : ∀ i x σ H, xs[i]? = some x → P i σ H → g x σ H (kBody t D (P (i + 1)))) (hd : ∀ σ H, P xs.length σ H → D.nx σ H) :
    kFl K g t D σ (.ref p) H := ⟨p, rfl, ⟨xs, hx⟩, for_list P h0 hl hs hd⟩
/-- for x in a tuple -/
def kFt (K : PySem.W.Frag) (g : TG) (t : TS) (D : Ends) (σ : L2.St) : VK := fun x H => ∃ a, x = .ref a ∧ (∃ xs, SqT K H a xs) ∧ ∃ W : Nat → Nat → L2.St → Hp → Prop, (∃ m, W 0 m σ H) ∧ ∀ i m σ H, W i m σ H →
  ((Itt K a).stop i H ∧ D.nx σ H) ∨ ((Itt K a).go i H ∧ ∃ N : L2.St → Hp → Prop, (∀ σ' H', N σ' H' → ∃ m', m' < m ∧ W (i + 1) m' σ' H') ∧ ∀ x H', (Itt K a).yld i H x H' → g x σ H' fun σ2 H2 => t { D with nx := N, ct := N, bk := D.nx } σ2 H2)
theorem x_forT {g : TG} (q : te σ H (kFt K g t D σ)) : tFor (iTup K te) g t D σ H := q
theorem y_forT {xs : List V} {g : TG} (P : Nat → L2.St → Hp → Prop) (hx : SqT K H p xs) (h0 : P 0 σ H) (hl : ∀ i σ H, i ≤ xs.length → P i σ H → SqT K H p xs) (hs : ∀ i x σ H, xs[i]? = some x → P i σ H → g x σ H (kBody t D (P (i + 1)))) (hd : ∀ σ H, P xs.length σ H → D.nx σ H) :
    kFt K g t D σ (.ref p) H := ⟨p, rfl, ⟨xs, hx⟩, for_tup P h0 hl hs hd⟩
/-- for k in range(a, b, -1) -/
def kRg3 (g : TG) (t : TS) (D : Ends) (σ : L2.St) : List V → Hp → Prop := fun vs H => ∃ (i j c : Int) (n : Nat), vs = [.int i, .int j, .int c] ∧ RgC i j c n ∧ ∃ W : Nat → Nat → L2.St → Hp → Prop, (∃ m, W 0 m σ H) ∧ ∀ i' m σ H, W i' m σ H →
  ((Itc i c n).stop i' H ∧ D.nx σ H) ∨ ((Itc i c n).go i' H ∧ ∃ N : L2.St → Hp → Prop, (∀ σ' H', N σ' H' → ∃ m', m' < m ∧ W (i' + 1) m' σ' H') ∧ ∀ x H', (Itc i c n).yld i' H x H' → g x σ H' fun σ2 H2 => t { D with nx := N, ct := N, bk := D.nx } σ2 H2)
theorem x_for3 {ta : TA} {g : TG} (q : ta σ H (kRg3 g t D σ)) : tFor (iRng3 ta) g t D σ H := q
theorem y_for3 {a b : Int} {g : TG} (P : Nat → L2.St → Hp → Prop) (ha : -1000000 ≤ a ∧ a ≤ 1000000) (hb : -1000000 ≤ b ∧ b ≤ 1000000) (h0 : P 0 σ H)
    (hs : ∀ i σ H, i < (a - b).toNat → P i σ H → g (.int (a - (i : Nat))) σ H (kBody t D (P (i + 1)))) (hd : ∀ σ H, P (a - b).toNat σ H → D.nx σ H) : kRg3 g t D σ [.int a, .int b, .int (-1)] H :=
  ⟨a, b, -1, _, rfl, RgC.neg (by omega) (by omega) (by omega) (by omega), for_rangeC P h0 (fun i σ H hi p => by
    have e : a + ((i : Nat) : Int) * (-1) = a - (i : Nat) := by omega
    rw [e]
    exact hs i σ H hi p) hd⟩
end
end TR

set_option Elab.async false
set_option linter.all false
set_option maxRecDepth 100000
set_option maxHeartbeats 4000000
/-! More rules (sums of any kind, list.count of truths), fields by places, data compared. -/
namespace TR
open PySem PySem.Spec PyProof.Rows L2

/-! ### fields by places -/
section
variable {nm : List Str} {vs : List V} {i : Nat} {f : Str} {v : V}
theorem look_zip : ∀ {nm : List Str} {vs : List V} {i : Nat} {f : Str} {v : V}, nm.Nodup → nm[i]? = some f → vs[i]? = some v → (nm.zip vs).lookup f = some v
  | [], _, _, _, _, _, h, _ => by simp at h
  | _ :: _, [], _, _, _, _, _, h => by simp at h
  | g :: nm, x :: vs, 0, f, v, nd, h1, h2 => by
    have e1 : g = f := Option.some.inj h1
    have e2 : x = v := Option.some.inj h2
    subst e1 e2
    show List.lookup g ((g, x) :: nm.zip vs) = some x
    rw [List.lookup_cons, beq_self_eq_true]
  | g :: nm, x :: vs, i + 1, f, v, nd, h1, h2 => by
    have ne : (f == g) = false := beq_eq_false_iff_ne.mpr fun e => (List.nodup_cons.mp nd).1 (by
      rw [← e]
      exact List.mem_of_getElem? (show nm[i]? = some f from by simpa using h1))
    show List.lookup f ((g, x) :: nm.zip vs) = some v
    rw [List.lookup_cons, ne]
    exact look_zip (i := i) (List.nodup_cons.mp nd).2 (by simpa using h1) (by simpa using h2)
theorem put_zip : ∀ {nm : List Str} {vs : List V} {i : Nat} {f : Str} {v : V}, nm.Nodup → nm[i]? = some f → i < vs.length → putF f v (nm.zip vs) = nm.zip (vs.set i v)
  | [], _, _, _, _, _, h, _ => by simp at h
  | _ :: _, [], _, _, _, _, _, h => by simp at h
  | g :: nm, x :: vs, 0, f, v, nd, h1, h2 => by
    have e1 : g = f := Option.some.inj h1
    subst e1
    show (if g = g then (g, v) :: nm.zip vs else _) = _
    rw [if_pos rfl] <;> rfl
  | g :: nm, x :: vs, i + 1, f, v, nd, h1, h2 => by
    have ne : ¬ g = f := fun e => (List.nodup_cons.mp nd).1 (by
      rw [e]
      exact List.mem_of_getElem? (show nm[i]? = some f from by simpa using h1))
    show (if g = f then (g, v) :: nm.zip vs else (g, x) :: putF f v (nm.zip vs)) = _
    rw [if_neg ne, put_zip (i := i) (List.nodup_cons.mp nd).2 (by simpa using h1) (by simpa using h2)] <;> rfl
theorem put_zip_new : ∀ {nm : List Str} {vs : List V} {f : Str} {v : V}, nm.Nodup → nm[vs.length]? = some f → putF f v (nm.zip vs) = nm.zip (vs ++ [v])
  | [], _, _, _, _, h => by simp at h
  | g :: nm, [], f, v, nd, h1 => by
    have e1 : g = f := Option.some.inj h1
    subst e1
    show [(g, v)] = _
    rw [List.nil_append, List.zip_cons_cons, List.zip_nil_right]
  | g :: nm, x :: vs, f, v, nd, h1 => by
    have h1' : nm[vs.length]? = some f := by simpa using h1
    have ne : ¬ g = f := fun e => (List.nodup_cons.mp nd).1 (by
      rw [e]
      exact List.mem_of_getElem? h1')
    show (if g = f then (g, v) :: nm.zip vs else (g, x) :: putF f v (nm.zip vs)) = _
    rw [if_neg ne, put_zip_new (List.nodup_cons.mp nd).2 h1'] <;> rfl
theorem len_zip (h : nm.length < 1000) : (nm.zip vs).length < 1000 := by
  rw [List.length_zip]
  omega
end

theorem getD_some {α : Type} {xs : List α} {i : Nat} {d : α} (h : i < xs.length) : xs[i]? = some (xs.getD i d) := by
  rw [List.getD_eq_getElem?_getD, List.getElem?_eq_getElem h] <;> rfl
/-! ### sums, products of any kind -/
section
variable {X : Cx} {K : PySem.W.Frag} {σ : L2.St} {H : Hp} {v x y : V} {Q : VK} {p q : Addr} {L R R' : List As}
def rAddS : R2 := fun x y H Q => ∃ i j, x = .str i ∧ y = .str j ∧ i.length + j.length ≤ sizeLine ∧ Q (.str (i ++ j)) H
theorem op_addS : OpR X (binaryOp .Add) rAddS := by
  intro pins s σ H x y v u Q I rx ry ⟨i, j, e1, e2, h, q⟩
  exact op_add_str pins s σ H x y v u Q I rx ry ⟨i, j, e1, e2, h, q⟩
def rAddA (K : PySem.W.Frag) : R2 := fun x y H Q => rI0 (fun i j => .int (i + j)) x y H Q ∨ (rCat x y H Q ∨ (rAddS x y H Q ∨ rCatT K x y H Q))
theorem op_addA : OpR X (binaryOp .Add) (rAddA X.K) := op_add.or (op_cat.or (op_addS.or op_catT))
theorem x_addI {i j : Int} (q : Q (.int (i + j)) H) : rAddA K (.int i) (.int j) H Q := .inl ⟨i, j, rfl, rfl, q⟩
theorem x_addS {i j : Str} (h : i.length + j.length ≤ sizeLine) (q : Q (.str (i ++ j)) H) : rAddA K (.str i) (.str j) H Q := .inr (.inr (.inl ⟨i, j, rfl, rfl, h, q⟩))
theorem x_cat {xs ys : List V} (hS : Sep L H) [a : At p L (.lst xs) R] [b : At q L (.lst ys) R'] (h : xs.length + ys.length ≤ sizeLine) (k : ∀ l H', Sep (pt l (.lst (xs ++ ys)) :: L) H' → Q (.ref l) H') : rAddA K (.ref p) (.ref q) H Q :=
  .inr (.inl ⟨p, q, xs, ys, rfl, rfl, hS.at_, Sep.at_ (q := b) hS, h, fun l hl => k l _ (Sep.new hl hS)⟩)
def rMulA : R2 := fun x y H Q => rI CMul (fun i j => .int (i * j)) x y H Q ∨ rRep x y H Q
theorem op_mulA : OpR X (binaryOp .Mult) rMulA := op_mul.or op_rep
theorem x_mulI {i j : Int} (c : CMul i j) (q : Q (.int (i * j)) H) : rMulA (.int i) (.int j) H Q := .inl ⟨i, j, rfl, rfl, c, q⟩
theorem x_mulL {xs : List V} {n : Nat} (hS : Sep L H) [a : At p L (.lst xs) R] (h0 : n ≤ 1000000) (h : xs.length * n ≤ sizeLine) (k : ∀ l H', Sep (pt l (.lst (List.replicate n xs).flatten) :: L) H' → Q (.ref l) H') : rMulA (.ref p) (.int (n : Nat)) H Q :=
  .inr ⟨p, (n : Nat), xs, rfl, rfl, hS.at_, by omega, by omega, by rw [Int.toNat_natCast]; exact h, fun l hl => by rw [Int.toNat_natCast]; exact k l _ (Sep.new hl hS)⟩
/-- a slice of a list, of a tuple -/
theorem sl_listA : SlR X (rSlL X.K) := sl_list
def kLr (Q : VK) : VK := fun x H => ∃ n, x = .int n ∧ (RgOk 0 n ∧ ∀ l, H l = none → Q (.ref l) (upd H l (.lst (rgV 0 n))))
theorem x_lrange1 {ta : TE} (q : ta σ H (kLr Q)) : tLstRg (tRg1 ta) σ H Q := q
theorem y_lrange1 {n : Int} (hS : Sep L H) (h0 : 0 ≤ n) (h1 : n ≤ 1000000) (q : ∀ l H', Sep (pt l (.lst (rgV 0 n)) :: L) H' → Q (.ref l) H') : kLr Q (.int n) H := ⟨n, rfl, .of_le (by omega) (by omega) (by omega) (by omega), fun l hl => q l _ (Sep.new hl hS)⟩
def kLr2b (i : V) (Q : VK) : VK := fun y H => ∃ a b, i = .int a ∧ y = .int b ∧ (RgOk a b ∧ ∀ l, H l = none → Q (.ref l) (upd H l (.lst (rgV a b))))
def kLr2 (tb : TE) (σ : L2.St) (Q : VK) : VK := fun x H => tb σ H (kLr2b x Q)
theorem x_lrange2 {ta tb : TE} (q : ta σ H (kLr2 tb σ Q)) : tLstRg (tRg2 ta tb) σ H Q := q
theorem y_lr2 {tb : TE} (q : tb σ H (kLr2b x Q)) : kLr2 tb σ Q x H := q
theorem y_lrange2 {a b : Int} (hS : Sep L H) (h : RgOk a b) (q : ∀ l H', Sep (pt l (.lst (rgV a b)) :: L) H' → Q (.ref l) H') : kLr2b (.int a) Q (.int b) H := ⟨a, b, rfl, rfl, h, fun l hl => q l _ (Sep.new hl hS)⟩
/-- how many truths -/
def eqb (k : Bool) (v : Value) : Bool := match v with
  | .bool b => b == k
  | _ => false
theorem vals_bl : ∀ {bs : List Bool} {us : List Value}, Vals (bs.map V.bl) us → (∀ y ∈ us, ∃ b, y = Value.bool b) ∧ ∀ k, us.countP (eqb k) = bs.count k
  | [], _, .nil => ⟨fun y hy => (by cases hy), fun k => rfl⟩
  | b :: bs, _, .cons r t => by
    obtain ⟨h1, h2⟩ := vals_bl (bs := bs) t
    cases r
    refine ⟨fun y hy => ?_, fun k => ?_⟩
    · rcases List.mem_cons.mp hy with e | e
      · exact ⟨b, e⟩
      · exact h1 y e
    · rw [List.countP_cons, List.count_cons, h2] <;> rfl
def rCntB (K : PySem.W.Frag) : V → List V → Hp → VK → Prop := fun x xs H Q => ∃ (p : Addr) (bs : List Bool) (k : Bool), x = .ref p ∧ xs = [.bl k] ∧ SqL K H p (bs.map V.bl) ∧ Q (.int (bs.count k : Nat)) H
theorem mt_countB : MtR X "list.count" (rCntB X.K) := by
  intro pins s σ H x xs v us Q I rx rxs h
  obtain ⟨p, bs, k, rfl, rfl, hs, q⟩ := h
  cases rx
  obtain ⟨u, rfl, ru⟩ := rxs.one
  cases ru
  obtain ⟨its, rv, ⟨⟨cls, dd, data, sl⟩, n, ho, hc, hdn, hd⟩, hlen⟩ := I.list hs
  simp only at hc hd
  subst hc hd
  obtain ⟨h1, h2⟩ := vals_bl rv
  refine call_meets PySem.F.slot_list_count ⟨_, ho, rfl⟩ PySem.F.entry_list_count (PySem.F.args_list_count_2 _ _)
    (SeqAt.list_countAt p its.toArray n dd sl (.bool k) (eqb k)) ⟨ho, fun y hy => ?_, ?_⟩
  · obtain ⟨b, rfl⟩ := h1 y (by simpa using hy)
    exact SeqAt.EqAt.bool_bool b k
  · have ec : its.toArray.toList.countP (eqb k) = bs.count k := h2 k
    refine ⟨.int (bs.count k : Nat), H, I.tok _, ⟨s.toks, ?_⟩, q⟩
    show Value.int ((its.toArray.toList.countP (eqb k) : Nat) : Int) s.toks = Value.int ((bs.count k : Nat) : Int) s.toks
    rw [ec]
end

/-! ### data -/
section
variable {K : PySem.W.Frag} {H : Hp} {a : Addr}
theorem dp_ints {ns : List Int} (h : SqL K H a (ns.map V.int)) : Dp K H (.ref a) (.list (ns.map PyData.int)) := .lst h (go ns)
where go : ∀ ns : List Int, DpAll K H (ns.map V.int) (ns.map PyData.int)
  | [] => .nil
  | n :: r => .cons (.int n) (go r)
theorem can_ints : ∀ ns : List Int, PyData.canLayAll0 (ns.map PyData.int) = true
  | [] => rfl
  | n :: r => by
    show (PyData.canLay0 (.int n) && PyData.canLayAll0 (r.map PyData.int)) = true
    rw [can_ints r] <;> rfl
theorem depth_ints : ∀ ns : List Int, PyData.depthAll (ns.map PyData.int) ≤ 1
  | [] => by decide
  | n :: r => by
    have h := depth_ints r
    show max (PyData.depth (.int n)) (PyData.depthAll (r.map PyData.int)) ≤ 1
    have e : PyData.depth (.int n) ≤ 1 := (by decide : (0 : Nat) ≤ 1)
    omega
end

/-! ### dicts, more of lists -/
def kDg2 (x : V) (Q : VK) : VK := fun y H => ∃ a v, x = .ref a ∧ DGet H a y (some v) ∧ Q v H
def kDg1 (ty : TE) (σ : L2.St) (Q : VK) : VK := fun x H => ty σ H (kDg2 x Q)
def kDi2 (y : V) (Q : VK) : VK := fun x H => ∃ a o, x = .ref a ∧ DGet H a y o ∧ Q (.bl o.isSome) H
def kDi1 (td : TE) (σ : L2.St) (Q : VK) : VK := fun y H => td σ H (kDi2 y Q)
def kDn2 (y : V) (Q : VK) : VK := fun x H => ∃ a o, x = .ref a ∧ DGet H a y o ∧ Q (.bl (!o.isSome)) H
def kDn1 (td : TE) (σ : L2.St) (Q : VK) : VK := fun y H => td σ H (kDn2 y Q)
def kDp3 (v x : V) (D : Ends) (σ : L2.St) : VK := fun y H => ∃ a H4, x = .ref a ∧ DPut H a y v H4 ∧ D.nx σ H4
def kDp2 (ty : TE) (v : V) (D : Ends) (σ : L2.St) : VK := fun x H => ty σ H (kDp3 v x D σ)
def kDp1 (td ty : TE) (D : Ends) (σ : L2.St) : VK := fun v H => td σ H (kDp2 ty v D σ)
section
variable {K : PySem.W.Frag} {σ : L2.St} {H : Hp} {v x y : V} {Q : VK} {p q : Addr} {L R R' : List As} {te td ty tv : TE} {t : TS} {D : Ends} {kvs : List (Key × V)} {k : Key}
theorem x_dnew (hS : Sep L H) (q : ∀ p H', Sep (pt p (.dK []) :: L) H' → Q (.ref p) H') : tDNewK σ H Q := fun p hp => q p _ (Sep.new hp hS)
theorem x_dget (q : td σ H (kDg1 ty σ Q)) : tDGet td ty σ H Q := q
theorem y_dg1 (q : ty σ H (kDg2 x Q)) : kDg1 ty σ Q x H := q
theorem y_dg2 (hS : Sep L H) [a : At p L (.dK kvs) R] (h : valV kvs k = some v) (q : Q v H) : kDg2 (.ref p) Q (kV k) H := ⟨p, v, rfl, h ▸ DGet.k hS.at_, q⟩
theorem y_dgi {i : Int} (hS : Sep L H) [a : At p L (.dK kvs) R] (h : valV kvs (.inl i) = some v) (q : Q v H) : kDg2 (.ref p) Q (.int i) H := y_dg2 (k := .inl i) hS h q
theorem y_dgs {s : Str} (hS : Sep L H) [a : At p L (.dK kvs) R] (h : valV kvs (.inr s) = some v) (q : Q v H) : kDg2 (.ref p) Q (.str s) H := y_dg2 (k := .inr s) hS h q
theorem x_din (q : ty σ H (kDi1 td σ Q)) : tDIn ty td σ H Q := q
theorem y_di1 (q : td σ H (kDi2 y Q)) : kDi1 td σ Q y H := q
theorem y_dii {i : Int} (hS : Sep L H) [a : At p L (.dK kvs) R] (q : Q (.bl (valV kvs (.inl i)).isSome) H) : kDi2 (.int i) Q (.ref p) H := ⟨p, _, rfl, DGet.k (k := .inl i) hS.at_, q⟩
theorem y_dis {s : Str} (hS : Sep L H) [a : At p L (.dK kvs) R] (q : Q (.bl (valV kvs (.inr s)).isSome) H) : kDi2 (.str s) Q (.ref p) H := ⟨p, _, rfl, DGet.k (k := .inr s) hS.at_, q⟩
theorem x_dnotin (q : ty σ H (kDn1 td σ Q)) : tDNotIn ty td σ H Q := q
theorem y_dn1 (q : td σ H (kDn2 y Q)) : kDn1 td σ Q y H := q
theorem y_dni {i : Int} (hS : Sep L H) [a : At p L (.dK kvs) R] (q : Q (.bl (!(valV kvs (.inl i)).isSome)) H) : kDn2 (.int i) Q (.ref p) H := ⟨p, _, rfl, DGet.k (k := .inl i) hS.at_, q⟩
theorem y_dns {s : Str} (hS : Sep L H) [a : At p L (.dK kvs) R] (q : Q (.bl (!(valV kvs (.inr s)).isSome)) H) : kDn2 (.str s) Q (.ref p) H := ⟨p, _, rfl, DGet.k (k := .inr s) hS.at_, q⟩
theorem x_dput (q : tv σ H (kDp1 td ty D σ)) : sDPut td ty tv D σ H := q
theorem y_dp1 (q : td σ H (kDp2 ty v D σ)) : kDp1 td ty D σ v H := q
theorem y_dp2 (q : ty σ H (kDp3 v x D σ)) : kDp2 ty v D σ x H := q
theorem y_dpi {i : Int} (hS : Sep L H) [a : At p L (.dK kvs) R] (hl : kvs.length ≤ 1000000) (q : ∀ H', Sep (pt p (.dK (putK kvs (.inl i) v)) :: R) H' → D.nx σ H') : kDp3 v (.ref p) D σ (.int i) H :=
  ⟨p, _, rfl, DPut.k (k := .inl i) hS.at_ (Nat.lt_of_le_of_lt hl (by decide)), q _ (Sep.put (o := .dK kvs) (fun z => z) (a.en H hS))⟩
theorem y_dps {s : Str} (hS : Sep L H) [a : At p L (.dK kvs) R] (hl : kvs.length ≤ 1000000) (q : ∀ H', Sep (pt p (.dK (putK kvs (.inr s) v)) :: R) H' → D.nx σ H') : kDp3 v (.ref p) D σ (.str s) H :=
  ⟨p, _, rfl, DPut.k (k := .inr s) hS.at_ (Nat.lt_of_le_of_lt hl (by decide)), q _ (Sep.put (o := .dK kvs) (fun z => z) (a.en H hS))⟩
/-- in, not in of a list -/
theorem x_in {xs : List V} (h : SqL K H p xs) (hx : flatV x = true) (hf : xs.all flatV = true) (q : Q (.bl (inV x xs)) H) : rIn K false x (.ref p) H Q := ⟨p, xs, rfl, .inl h, hx, hf, q⟩
theorem x_nin {xs : List V} (h : SqL K H p xs) (hx : flatV x = true) (hf : xs.all flatV = true) (q : Q (.bl (!inV x xs)) H) : rIn K true x (.ref p) H Q := ⟨p, xs, rfl, .inl h, hx, hf, q⟩
theorem flat_ints (ns : List Int) : (ns.map V.int).all flatV = true := by
  rw [List.all_map]
  exact List.all_eq_true.mpr fun _ _ => rfl
theorem in_ints (i : Int) (ns : List Int) : inV (.int i) (ns.map V.int) = decide (i ∈ ns) := by
  unfold inV
  rw [List.any_map]
  induction ns with
  | nil => rfl
  | cons n ns ih =>
    rw [List.any_cons, ih]
    show ((n == i) || decide (i ∈ ns)) = decide (i ∈ n :: ns)
    by_cases e : n = i
    · rw [e, beq_self_eq_true, decide_eq_true (List.mem_cons_self) ] <;> rfl
    · have e1 : (n == i) = false := beq_eq_false_iff_ne.mpr e
      rw [e1, Bool.false_or]
      by_cases h : i ∈ ns
      · rw [decide_eq_true h, decide_eq_true (List.mem_cons_of_mem _ h)]
      · rw [decide_eq_false h, decide_eq_false fun z => by
          rcases List.mem_cons.mp z with z | z
          · exact e z.symm
          · exact h z]
theorem x_inI {i : Int} {ns : List Int} (h : SqL K H p (ns.map V.int)) (q : Q (.bl (decide (i ∈ ns))) H) : rIn K false (.int i) (.ref p) H Q := x_in h rfl (flat_ints ns) (by rw [in_ints]; exact q)
theorem x_ninI {i : Int} {ns : List Int} (h : SqL K H p (ns.map V.int)) (q : Q (.bl (!decide (i ∈ ns))) H) : rIn K true (.int i) (.ref p) H Q := x_nin h rfl (flat_ints ns) (by rw [in_ints]; exact q)
/-- insert, remove, index of ints -/
def rIns : V → List V → Hp → VK → Prop := fun x vs H Q => ∃ (l : Addr) (xs : List V) (i : Int) (y : V), x = .ref l ∧ vs = [.int i, y] ∧ H l = some (.lst xs) ∧ xs.length < sizeLine ∧ 0 ≤ i ∧ i < 2 ^ 63 ∧ Q .non (upd H l (.lst (xs.take i.toNat ++ [y] ++ xs.drop i.toNat)))
theorem mt_ins {X : Cx} : MtR X "list.insert" rIns := mt_insert
theorem x_ins {xs : List V} {i : Int} (hS : Sep L H) [a : At p L (.lst xs) R] (hl : xs.length ≤ 1000000) (h0 : 0 ≤ i ∧ i ≤ 1000000) (q : ∀ H', Sep (pt p (.lst (xs.take i.toNat ++ [y] ++ xs.drop i.toNat)) :: R) H' → Q .non H') : rIns (.ref p) [.int i, y] H Q :=
  ⟨p, xs, i, y, rfl, rfl, hS.at_, Nat.lt_of_le_of_lt hl (by decide), by omega, by omega, q _ (Sep.put (o := .lst xs) (fun z => z) (a.en H hS))⟩
theorem insI (ns : List Int) (i : Nat) (y : Int) : (ns.map V.int).take i ++ [V.int y] ++ (ns.map V.int).drop i = (ns.take i ++ [y] ++ ns.drop i).map V.int := by
  rw [List.map_append, List.map_append, List.map_take, List.map_drop] <;> rfl
theorem x_insI {ns : List Int} {i y : Int} (hS : Sep L H) [a : At p L (.lst (ns.map V.int)) R] (hl : ns.length ≤ 1000000) (h0 : 0 ≤ i ∧ i ≤ 1000000) (q : ∀ H', Sep (pt p (.lst ((ns.take i.toNat ++ [y] ++ ns.drop i.toNat).map V.int)) :: R) H' → Q .non H') : rIns (.ref p) [.int i, .int y] H Q :=
  x_ins hS (by rw [List.length_map]; exact hl) h0 (by rw [insI]; exact q)
theorem first_ix {ns : List Int} {i : Int} (h : i ∈ ns) : ns[ns.idxOf i]? = some i ∧ ∀ m, m < ns.idxOf i → ns[m]? ≠ some i := by
  refine ⟨?_, fun m hm e => ?_⟩
  · rw [List.getElem?_eq_getElem (List.idxOf_lt_length_of_mem h), List.getElem_idxOf]
  · have h1 := (List.getElem?_eq_some_iff.mp e)
    obtain ⟨hlt, e2⟩ := h1
    have h3 := List.not_of_lt_findIdx (p := (· == i)) (xs := ns) (i := m) hm
    rw [e2] at h3
    simp at h3
theorem x_remI {ns : List Int} {i : Int} (hS : Sep L H) [a : At p L (.lst (ns.map V.int)) R] (hi : i ∈ ns) (q : ∀ H', Sep (pt p (.lst ((ns.eraseIdx (ns.idxOf i)).map V.int)) :: R) H' → Q .non H') : rRemI (.ref p) [.int i] H Q :=
  ⟨p, ns, i, ns.idxOf i, rfl, rfl, hS.at_, (first_ix hi).1, (first_ix hi).2, q _ (Sep.put (o := .lst (ns.map V.int)) (fun z => z) (a.en H hS))⟩
theorem x_ixI {ns : List Int} {i : Int} (h : SqL K H p (ns.map V.int)) (hi : i ∈ ns) (q : Q (.int (ns.idxOf i : Nat)) H) : rIndex K (.ref p) [.int i] H Q := by
  refine ⟨p, _, .int i, ns.idxOf i, .int i, rfl, rfl, h, rfl, flat_ints ns, ?_, (by show (i == i) = true; simp), fun m z' hm e => ?_, q⟩
  · rw [List.getElem?_map, (first_ix hi).1] <;> rfl
  · rw [List.getElem?_map] at e
    cases e3 : ns[m]? with
    | none =>
      rw [e3] at e
      cases e
    | some z =>
      rw [e3] at e
      cases e
      show (z == i) = false
      refine beq_eq_false_iff_ne.mpr fun z2 => (first_ix hi).2 m hm ?_
      rw [e3, z2]
end
/-! ### isinstance of a held error; list.count, list.index; sorted; comprehensions -/
section
variable {K : PySem.W.Frag} {σ : L2.St} {H : Hp} {v x y : V} {Q : VK} {p q : Addr} {L R R' : List As} {te : TE} {t : TS}
theorem x_isX {D C : Addr} {b : Bool} (hS : Sep L H) [a : At p L (ExA (.ref D) p) R] (hc : ExcC K D) (hk : PySem.W.kitOne K (.ref D) (.ref C) = some b) (q : Q (.bl b) H) : rIsX K [.ref p, .ref C] H Q :=
  ⟨p, D, .ref C, .ref C, b, rfl, hS.at_, hc, fun u r => r, hk, q⟩
theorem x_isXT {D : Addr} {C : String} {b : Bool} (hS : Sep L H) [a : At p L (ExA (.ref D) p) R] (hc : ExcC K D) (hk : PySem.W.kitOne K (.ref D) (.type C) = some b) (q : Q (.bl b) H) : rIsX K [.ref p, .ty C] H Q :=
  ⟨p, D, .ty C, .type C, b, rfl, hS.at_, hc, fun u r => r, hk, q⟩
theorem x_cntB {bs : List Bool} {k : Bool} (h : SqL K H p (bs.map V.bl)) (q : Q (.int (bs.count k : Nat)) H) : rCntB K (.ref p) [.bl k] H Q := ⟨p, bs, k, rfl, rfl, h, q⟩
theorem x_index {ys : List V} {j : Nat} {z : V} (h : SqL K H p ys) (hy : flatV y = true) (hf : ys.all flatV = true) (hj : ys[j]? = some z) (he : eqV z y = true) (hn : ∀ (m : Nat) (z' : V), m < j → ys[m]? = some z' → eqV z' y = false) (q : Q (.int (j : Nat)) H) : rIndex K (.ref p) [y] H Q :=
  ⟨p, ys, y, j, z, rfl, rfl, h, hy, hf, hj, he, hn, q⟩
theorem x_sorted {ns : List Int} (hS : Sep L H) (h : SqL K H p (ns.map V.int)) (hl : ns.length < 64) (q : ∀ (ns' : List Int) (l : Addr) (H' : Hp), ns'.Perm ns → ns'.Pairwise (· ≤ ·) → Sep (pt l (.lst (ns'.map V.int)) :: L) H' → Q (.ref l) H') : rSorted K [.ref p] H Q :=
  ⟨p, ns, rfl, h, hl, fun ns' l hp hs hl => q ns' l _ hp hs (Sep.new hl hS)⟩
/-- [e for x in a tuple]: P what holds behind i turns, the new list in it -/
def kLcT (K : PySem.W.Frag) (g : TG) (tt : TT) (te : TE) (vs : List Nat) (σ : L2.St) (Q : VK) : VK := fun x H => ∃ a, x = .ref a ∧ (∃ xs, SqT K H a xs) ∧ ∀ D, H D = none → ∃ W : Nat → Nat → Hp → Prop, (∃ m, W 0 m (upd H D (.lst []))) ∧ ∀ i m H, W i m H →
  ((Itt K a).stop i H ∧ Q (.ref D) H) ∨ ((Itt K a).go i H ∧ ∃ Nx : Hp → Prop, (∀ H', Nx H' → ∃ m', m' < m ∧ W (i + 1) m' H') ∧ ∀ x H', (Itt K a).yld i H x H' → g x (wipe σ vs) H' fun σ2 H2 => wipe σ2 vs = wipe σ vs ∧ tt σ2 H2 fun b H3 =>
    if b = true then te σ2 H3 fun y H4 => ∃ acc, H4 D = some (.lst acc) ∧ acc.length < sizeLine ∧ Nx (upd H4 D (.lst (acc ++ [y]))) else Nx H3)
def kLcL (K : PySem.W.Frag) (g : TG) (tt : TT) (te : TE) (vs : List Nat) (σ : L2.St) (Q : VK) : VK := fun x H => ∃ a, x = .ref a ∧ (∃ xs, SqL K H a xs) ∧ ∀ D, H D = none → ∃ W : Nat → Nat → Hp → Prop, (∃ m, W 0 m (upd H D (.lst []))) ∧ ∀ i m H, W i m H →
  ((Itl K a).stop i H ∧ Q (.ref D) H) ∨ ((Itl K a).go i H ∧ ∃ Nx : Hp → Prop, (∀ H', Nx H' → ∃ m', m' < m ∧ W (i + 1) m' H') ∧ ∀ x H', (Itl K a).yld i H x H' → g x (wipe σ vs) H' fun σ2 H2 => wipe σ2 vs = wipe σ vs ∧ tt σ2 H2 fun b H3 =>
    if b = true then te σ2 H3 fun y H4 => ∃ acc, H4 D = some (.lst acc) ∧ acc.length < sizeLine ∧ Nx (upd H4 D (.lst (acc ++ [y]))) else Nx H3)
theorem x_lcT {tl : TE} {g : TG} {tt : TT} {vs : List Nat} (q : tl σ H (kLcT K g tt te vs σ Q)) : tLc (iTup K tl) g tt te vs σ H Q := q
theorem x_lcL {tl : TE} {g : TG} {tt : TT} {vs : List Nat} (q : tl σ H (kLcL K g tt te vs σ Q)) : tLc (iList K tl) g tt te vs σ H Q := q
/-- the element's value y goes behind the list so far -/
def kEl (D : Addr) (N : Hp → Prop) : VK := fun y H => ∃ acc, H D = some (.lst acc) ∧ acc.length < sizeLine ∧ N (upd H D (.lst (acc ++ [y])))
def kTt (te : TE) (σ : L2.St) (D : Addr) (N : Hp → Prop) : Bool → Hp → Prop := fun b H => if b = true then te σ H (kEl D N) else N H
def kLcb (tt : TT) (te : TE) (D : Addr) (σ : L2.St) (vs : List Nat) (N : Hp → Prop) : L2.St → Hp → Prop := fun σ2 H => wipe σ2 vs = wipe σ vs ∧ tt σ2 H (kTt te σ2 D N)
theorem y_el {D : Addr} {acc : List V} {N : Hp → Prop} (hS : Sep L H) [a : At D L (.lst acc) R] (hl : acc.length ≤ 1000000) (q : ∀ H', Sep (pt D (.lst (acc ++ [y])) :: R) H' → N H') : kEl D N y H :=
  ⟨acc, hS.at_, Nat.lt_of_le_of_lt hl (by decide), q _ (Sep.put (o := .lst acc) (fun z => z) (a.en H hS))⟩
theorem y_tt {D : Addr} {N : Hp → Prop} {b : Bool} (q : if b = true then te σ H (kEl D N) else N H) : kTt te σ D N b H := q
theorem y_lcb {tt : TT} {D : Addr} {σ2 : L2.St} {vs : List Nat} {N : Hp → Prop} (hw : wipe σ2 vs = wipe σ vs) (q : tt σ2 H (kTt te σ2 D N)) : kLcb tt te D σ vs N σ2 H := ⟨hw, q⟩
theorem x_yes' {QT : Bool → Hp → Prop} (q : QT true H) : tYes σ H QT := q
theorem y_lcT {g : TG} {tt : TT} {vs : List Nat} {xs : List V} (hx : SqT K H p xs) (hS : Sep L H) (P : Addr → Nat → Hp → Prop) (h0 : ∀ D H', Sep (pt D (.lst []) :: L) H' → P D 0 H') (hl : ∀ D i H, i ≤ xs.length → P D i H → SqT K H p xs)
    (hs : ∀ D i x H, xs[i]? = some x → P D i H → g x (wipe σ vs) H (kLcb tt te D σ vs (P D (i + 1)))) (hd : ∀ D H, P D xs.length H → Q (.ref D) H) : kLcT K g tt te vs σ Q (.ref p) H :=
  ⟨p, rfl, ⟨xs, hx⟩, fun D hD => lc_tup (P D) (h0 D _ (Sep.new hD hS)) (hl D) (hs D) (hd D)⟩
theorem y_lcL {g : TG} {tt : TT} {vs : List Nat} {xs : List V} (hx : SqL K H p xs) (hS : Sep L H) (P : Addr → Nat → Hp → Prop) (h0 : ∀ D H', Sep (pt D (.lst []) :: L) H' → P D 0 H') (hl : ∀ D i H, i ≤ xs.length → P D i H → SqL K H p xs)
    (hs : ∀ D i x H, xs[i]? = some x → P D i H → g x (wipe σ vs) H (kLcb tt te D σ vs (P D (i + 1)))) (hd : ∀ D H, P D xs.length H → Q (.ref D) H) : kLcL K g tt te vs σ Q (.ref p) H :=
  ⟨p, rfl, ⟨xs, hx⟩, fun D hD => lc_list (P D) (h0 D _ (Sep.new hD hS)) (hl D) (hs D) (hd D)⟩
theorem x_try {X : Cx} {c : Value} {i : Nat} {ts : Addr → List (Addr × Obj) → TS} {Wout : WX} {tb : ∀ (W : WX) (pn : List (Addr × Obj)) (xe : Value → Shared → Prop), Takes (X.tr pn xe) W → PassesOwn (model X.prog X.w) X.A X.env xe → TS} {D : Ends}
    (q : ∀ pn xe (tk : Takes (X.tr pn xe) (wHold X.K c i ts Wout D)) (po : PassesOwn (model X.prog X.w) X.A X.env xe), tb (wHold X.K c i ts Wout D) pn xe tk po D σ H) : tTry X c i ts Wout tb D σ H := q
/-- the error is caught, and held by a name -/
theorem y_hold {c cls : Value} {i j : Nat} {D : Ends} {Wout : WX} (hx : PySem.W.exmOne K cls c = some true) (hi : ∀ a, (σ.set i (some (.ref a)))[i]? = some (some (.ref a))) (hS : Sep L H)
    (q : ∀ a H', Sep (pt a (ExA cls a) :: L) H' → D.nx (((σ.set i (some (.ref a))).set j (some (.ref a))).set i none) H') : WE (wHold K c i (fun a pn => tAsg (tVar i) (gName j)) Wout D) σ cls none H :=
  ⟨true, hx, fun _ => ⟨rfl, fun a pn na => ⟨.ref a, hi a, na, q a _ (Sep.new na hS)⟩⟩, fun z => Bool.noConfusion z⟩
end

/-! ### more of data -/
section
variable {K : PySem.W.Frag} {H : Hp} {a : Addr}
theorem shaped_ints (ns : List Int) : SeqAt.shaped (.list (ns.map PyData.int)) = true := by
  have h := depth_ints ns
  have e : PyData.depth (.list (ns.map PyData.int)) ≤ 64 := by
    show PyData.depthAll (ns.map PyData.int) + 1 ≤ 64
    omega
  show (PyData.canLayAll0 (ns.map PyData.int) && decide (PyData.depth (.list (ns.map PyData.int)) ≤ 64)) = true
  rw [can_ints, decide_eq_true e] <;> rfl
theorem eqv_of {d : PyData} (h : SeqAt.shaped d = true) : PyData.eqv d d = true := SeqAt.eqv_refl d (SeqAt.canLay_of_shaped h)
theorem pick_int {P : Int → Prop} {is : List Int} (h : ∀ z ∈ is, P z) {i : Nat} (hi : i < is.length) : ∃ z, P z ∧ z ∈ is ∧ (is.map V.int).getD i .non = .int z := by
  refine ⟨is[i], h _ (List.getElem_mem hi), List.getElem_mem hi, ?_⟩
  rw [List.getD_eq_getElem?_getD, List.getElem?_map, List.getElem?_eq_getElem hi] <;> rfl
/-- an arrangement of ints is a list of ints -/
def unint : V → Int
  | .int i => i
  | _ => 0
theorem perm_ints {xs : List V} {is : List Int} (h : xs.Perm (is.map V.int)) : ∃ js : List Int, xs = js.map V.int ∧ js.Perm is := by
  refine ⟨xs.map unint, ?_, ?_⟩
  · rw [List.map_map]
    have e : ∀ v ∈ xs, (V.int ∘ unint) v = v := fun v hv => by
      obtain ⟨i, _, rfl⟩ := List.mem_map.mp (h.mem_iff.mp hv)
      rfl
    exact (List.map_id' xs).symm.trans (List.map_congr_left fun v hv => (e v hv).symm)
  · have h2 := h.map unint
    rw [List.map_map] at h2
    have e : (unint ∘ V.int) = id := rfl
    rw [e, List.map_id] at h2
    exact h2
end
end TR

set_option Elab.async false
set_option linter.all false
set_option maxRecDepth 100000
set_option maxHeartbeats 4000000
/-! The end: from a def's promise to the row. -/
namespace TR
open PySem PySem.Spec PyProof.Rows L2
def CXall : CXT := fun outer H s E u s' => ∃ P w, L2.CX P w outer H s E u s'
theorem fn_all {P : Program} {w : World} {K : PySem.W.Frag} {mg : Str → Option Value} {base : Heap} {k : Nat} {f : Addr} {fd : FuncData} {ps : List Str} {sp : Sp} (F : FnOk P w K mg base (L2.CX P w) k f fd ps sp) : FnOk P w K mg base CXall k f fd ps sp :=
  ⟨F.len, fun A outer s H args us vs Q E hr e0 hb r hsp => codeAny_mono (F.run A outer s H args us vs Q E hr e0 hb r hsp) fun r s' hq => by
    cases r with
    | ok fl =>
      cases fl with
      | ret u => exact hq
      | next => exact False.elim hq
      | brk => exact False.elim hq
      | cont => exact False.elim hq
    | error e => exact ⟨P, w, hq⟩⟩
theorem cxall_no : ∀ (H : Hp) (s : Shared) (e : Value) (s' : Shared), CXall [] H s (fun _ _ _ => False) e s' → False := fun _ _ _ _ ⟨_, _, _, _, _, _, _, _, _, _, _, _, _, _, h⟩ => h
end TR

set_option Elab.async false
set_option linter.all false
set_option maxRecDepth 100000
set_option maxHeartbeats 4000000
/-! More steps: dicts with named things in them, dict displays, optional numbers, filters. -/
namespace TR
open PySem PySem.Spec PyProof.Rows L2
/-- what stands at a name in a dict -/
class DGs (kvs : List (Key × V)) (k : Str) (v : outParam V) : Prop where
  h : valV kvs (.inr k) = some v
class DPs (kvs : List (Key × V)) (k : Str) (v : V) (kvs' : outParam (List (Key × V))) : Prop where
  h : putK kvs (.inr k) v = kvs'
  hl : kvs.length ≤ 1000000
def oV : Option Int → V
  | none => .non
  | some i => .int i
def hasO (e : Option Int) (ns : List Int) : Bool := match e with
  | none => false
  | some i => decide (i ∈ ns)
def kPa (tv : TE) (trs : List (TE × TE)) (σ : L2.St) (Q : List (V × V) → Hp → Prop) : VK := fun x H => tv σ H fun y H2 => tPairs trs σ H2 fun ps H3 => Q ((x, y) :: ps) H3
def kPb (x : V) (trs : List (TE × TE)) (σ : L2.St) (Q : List (V × V) → Hp → Prop) : VK := fun y H2 => tPairs trs σ H2 fun ps H3 => Q ((x, y) :: ps) H3
def kPc (x y : V) (Q : List (V × V) → Hp → Prop) : List (V × V) → Hp → Prop := fun ps H3 => Q ((x, y) :: ps) H3
def kDsp (p : Addr) (Q : VK) : List (V × V) → Hp → Prop := fun ps H2 => H2 p = some (.dK []) ∧ ∃ kvs : List (Key × V), ps = kvs.map (fun kv => (kV kv.1, kv.2)) ∧ kvs.length ≤ 15 ∧ Q (.ref p) (upd H2 p (.dK (mergeK [] kvs)))
section
variable {K : PySem.W.Frag} {σ : L2.St} {H : Hp} {v x y : V} {Q : VK} {p q : Addr} {L R R' : List As} {te td ty tv tk : TE} {t : TS} {D : Ends} {kvs kvs' : List (Key × V)} {k : Str}
theorem y_dgo {s : Str} (hS : Sep L H) [a : At p L (.dK kvs) R] [d : DGs kvs s v] (q : Q v H) : kDg2 (.ref p) Q (.str s) H := y_dgs hS d.h q
theorem y_dpo {s : Str} (hS : Sep L H) [a : At p L (.dK kvs) R] [d : DPs kvs s v kvs'] (q : ∀ H', Sep (pt p (.dK kvs') :: R) H' → D.nx σ H') : kDp3 v (.ref p) D σ (.str s) H := y_dps hS d.hl fun H' h => q H' (d.h ▸ h)
theorem x_disp {trs : List (TE × TE)} (hS : Sep L H) (q : ∀ p H', Sep (pt p (.dK []) :: L) H' → tPairs trs σ H' (kDsp p Q)) : tDisp trs σ H Q := fun p hp => q p _ (Sep.new hp hS)
theorem x_prs {trs : List (TE × TE)} {Q : List (V × V) → Hp → Prop} (q : tk σ H (kPa tv trs σ Q)) : tPairs ((tk, tv) :: trs) σ H Q := q
theorem y_pa {trs : List (TE × TE)} {Q : List (V × V) → Hp → Prop} (q : tv σ H (kPb x trs σ Q)) : kPa tv trs σ Q x H := q
theorem y_pb {trs : List (TE × TE)} {Q : List (V × V) → Hp → Prop} (q : tPairs trs σ H (kPc x y Q)) : kPb x trs σ Q y H := q
theorem y_pc {ps : List (V × V)} {Q : List (V × V) → Hp → Prop} (q : Q ((x, y) :: ps) H) : kPc x y Q ps H := q
theorem x_prn {Q : List (V × V) → Hp → Prop} (q : Q [] H) : tPairs [] σ H Q := q
theorem y_dsp {ps : List (V × V)} (hS : Sep L H) [a : At p L (.dK []) R] (kvs : List (Key × V)) (e : ps = kvs.map (fun kv => (kV kv.1, kv.2))) (hl : kvs.length ≤ 15) (hm : mergeK [] kvs = kvs') (q : ∀ H', Sep (pt p (.dK kvs') :: R) H' → Q (.ref p) H') : kDsp p Q ps H :=
  ⟨hS.at_, kvs, e, hl, hm ▸ q _ (hm ▸ Sep.put (o := .dK []) (fun z => z) (a.en H hS))⟩
theorem in_oV (e : Option Int) (ns : List Int) : inV (oV e) (ns.map V.int) = hasO e ns := by
  cases e with
  | some i => exact in_ints i ns
  | none =>
    unfold inV
    rw [List.any_map]
    exact List.any_eq_false.mpr fun n _ => (by intro z; cases z)
theorem flat_oV (e : Option Int) : flatV (oV e) = true := by cases e <;> rfl
theorem x_inO {e : Option Int} {ns : List Int} (h : SqL K H p (ns.map V.int)) (q : Q (.bl (hasO e ns)) H) : rIn K false (oV e) (.ref p) H Q := x_in h (flat_oV e) (flat_ints ns) (by rw [in_oV]; exact q)
theorem x_ninO {e : Option Int} {ns : List Int} (h : SqL K H p (ns.map V.int)) (q : Q (.bl (!hasO e ns)) H) : rIn K true (oV e) (.ref p) H Q := x_nin h (flat_oV e) (flat_ints ns) (by rw [in_oV]; exact q)
theorem oV_inj {a b : Option Int} : oV a = oV b ↔ a = b := by
  constructor
  · intro h
    cases a <;> cases b
    · rfl
    · cases h
    · cases h
    · cases h; rfl
  · rintro rfl; rfl
theorem scal_o (a b : Option Int) : scal (oV a) (oV b) = true := by cases a <;> cases b <;> rfl
theorem x_eqO {a b : Option Int} (q : Q (.bl (decide (a = b))) H) : rEqA K (oV a) (oV b) H Q := x_eqS (scal_o a b) (by rw [show decide (oV a = oV b) = decide (a = b) from decide_eq_decide.mpr oV_inj]; exact q)
theorem x_neO {a b : Option Int} (q : Q (.bl (!decide (a = b))) H) : rNeA K (oV a) (oV b) H Q := x_neS (scal_o a b) (by rw [show decide (oV a = oV b) = decide (a = b) from decide_eq_decide.mpr oV_inj]; exact q)
theorem x_eqI1 {i : Int} {b : Option Int} (q : Q (.bl (decide (some i = b))) H) : rEqA K (.int i) (oV b) H Q := x_eqO (a := some i) q
theorem x_neI1 {i : Int} {b : Option Int} (q : Q (.bl (!decide (some i = b))) H) : rNeA K (.int i) (oV b) H Q := x_neO (a := some i) q
theorem x_neJ {i : Int} {b : Option Int} (q : Q (.bl (!decide (some i = b))) H) : rNe (.int i) (oV b) H Q := ⟨scal_o (some i) b, by rw [show decide (V.int i = oV b) = decide (some i = b) from decide_eq_decide.mpr (oV_inj (a := some i))]; exact q⟩
theorem x_isO {e : Option Int} (q : Q (.bl (decide (e = none))) H) : rIsN (oV e) .non H Q := x_isN (by rw [show decide (oV e = V.non) = decide (e = none) from decide_eq_decide.mpr (oV_inj (b := none))]; exact q)
/-- a list against an empty one -/
theorem eqv_nil (ns : List Int) : PyData.eqv (.list (ns.map PyData.int)) (.list ([].map PyData.int)) = ns.isEmpty := by cases ns <;> rfl
theorem x_eqLn {ns : List Int} (h : SqL K H p (ns.map V.int)) (h2 : SqL K H q []) (k : Q (.bl ns.isEmpty) H) : rEqA K (.ref p) (.ref q) H Q :=
  x_eqD (dp_ints (ns := ns) h) (dp_ints (ns := []) h2) (shaped_ints ns) (shaped_ints []) (by rw [eqv_nil]; exact k)
theorem x_neLn {ns : List Int} (h : SqL K H p (ns.map V.int)) (h2 : SqL K H q []) (k : Q (.bl (!ns.isEmpty)) H) : rNeA K (.ref p) (.ref q) H Q :=
  x_neD (dp_ints (ns := ns) h) (dp_ints (ns := []) h2) (shaped_ints ns) (shaped_ints []) (by rw [eqv_nil]; exact k)
theorem x_pop0 {n : Int} {r : List Int} (hS : Sep L H) [a : At p L (.lst ((n :: r).map V.int)) R] (q : ∀ H', Sep (pt p (.lst (r.map V.int)) :: R) H' → Q (.int n) H') : rPopAt (.ref p) [.int 0] H Q :=
  ⟨p, (n :: r).map V.int, 0, 0, .int n, rfl, rfl, hS.at_, by decide, by decide, by
    rw [List.length_map, List.length_cons]
    simp [seqIndex?], rfl, q _ (Sep.put (o := .lst ((n :: r).map V.int)) (fun z => z) (a.en H hS))⟩
/-- [x for x in a list of numbers if ..] -/
theorem y_lcF {g : TG} {tt : TT} {vs : List Nat} {ns : List Int} (f : Int → Bool) (hS : Sep L H) [a : At p L (.lst (ns.map V.int)) R] (hn : ns.length ≤ 100000)
    (hs : ∀ D (acc : List Int) x H, acc.length ≤ 100000 → Sep (pt D (.lst (acc.map V.int)) :: L) H → g (.int x) (wipe σ vs) H (kLcb tt te D σ vs (fun H' => Sep (pt D (.lst ((if f x then acc ++ [x] else acc).map V.int)) :: L) H')))
    (hd : ∀ D H, Sep (pt D (.lst ((ns.filter f).map V.int)) :: L) H → Q (.ref D) H) : kLcL K g tt te vs σ Q (.ref p) H := by
  refine y_lcL (xs := ns.map V.int) (sqL hS) hS (fun D i H => Sep (pt D (.lst (((ns.take i).filter f).map V.int)) :: L) H) (fun D H h => h) (fun D i H _ h => sqL h) ?_ ?_
  · intro D i x H hx hS
    rw [List.getElem?_map] at hx
    obtain ⟨n, hn', rfl⟩ := Option.map_eq_some_iff.mp hx
    have hl := (List.getElem?_eq_some_iff.mp hn').1
    have e : (ns.take (i + 1)).filter f = if f n then (ns.take i).filter f ++ [n] else (ns.take i).filter f := by
      rw [List.take_add_one, hn', List.filter_append]
      cases hf : f n
      · simp [hf]
      · simp [hf]
    rw [e]
    refine hs D _ n H ?_ hS
    exact Nat.le_trans (List.length_filter_le _ _) (Nat.le_trans (List.length_take_le' _ _) hn)
  · intro D H h
    rw [List.length_map, List.take_length] at h
    exact hd D H h
end
end TR

set_option Elab.async false
set_option linter.all false
set_option maxRecDepth 100000
set_option maxHeartbeats 4000000
/-! The facts, the fields. -/
namespace TR
open PySem PySem.Spec PyProof.Rows L2
class Top (K : PySem.W.Frag) (mg : outParam (Str → Option Value)) : Prop where
  s : Says fa fn exs K
  g : ∃ h : Heap, K.In h ∧ h.Ns mainGlobals mg
section
variable {K : PySem.W.Frag} {mg : Str → Option Value}
theorem gl_RoadError (T : Top K mg) : mg "RoadError" = some (.ref (He.ga K "RoadError")) := let ⟨_, X, G⟩ := T.g; He.glo_ok X G (T.s.fact 0 (f := .glo "RoadError"))
theorem xc_RoadError (T : Top K mg) : PySem.W.excIn K (He.ga K "RoadError") He.veBase "ValueError.__new__" = true ∧ PySem.W.keepIn K (.ref (He.ga K "RoadError")) = true ∧ PySem.W.subIn K (.ref (He.ga K "RoadError")) (.type "BaseException") = some true ∧ PySem.W.typeIn K (.ref (He.ga K "RoadError")) = some (.type "type") := He.exc_ok (T.s.fact 1 (f := .exc "RoadError"))
theorem gl_BadTune (T : Top K mg) : mg "BadTune" = some (.ref (He.ga K "BadTune")) := let ⟨_, X, G⟩ := T.g; He.glo_ok X G (T.s.fact 2 (f := .glo "BadTune"))
theorem xc_BadTune (T : Top K mg) : PySem.W.excIn K (He.ga K "BadTune") He.veBase "ValueError.__new__" = true ∧ PySem.W.keepIn K (.ref (He.ga K "BadTune")) = true ∧ PySem.W.subIn K (.ref (He.ga K "BadTune")) (.type "BaseException") = some true ∧ PySem.W.typeIn K (.ref (He.ga K "BadTune")) = some (.type "type") := He.exc_ok (T.s.fact 3 (f := .exc "BadTune"))
theorem gl_BadNumber (T : Top K mg) : mg "BadNumber" = some (.ref (He.ga K "BadNumber")) := let ⟨_, X, G⟩ := T.g; He.glo_ok X G (T.s.fact 4 (f := .glo "BadNumber"))
theorem xc_BadNumber (T : Top K mg) : PySem.W.excIn K (He.ga K "BadNumber") He.veBase "ValueError.__new__" = true ∧ PySem.W.keepIn K (.ref (He.ga K "BadNumber")) = true ∧ PySem.W.subIn K (.ref (He.ga K "BadNumber")) (.type "BaseException") = some true ∧ PySem.W.typeIn K (.ref (He.ga K "BadNumber")) = some (.type "type") := He.exc_ok (T.s.fact 5 (f := .exc "BadNumber"))
theorem gl_BadEntry (T : Top K mg) : mg "BadEntry" = some (.ref (He.ga K "BadEntry")) := let ⟨_, X, G⟩ := T.g; He.glo_ok X G (T.s.fact 6 (f := .glo "BadEntry"))
theorem xc_BadEntry (T : Top K mg) : PySem.W.excIn K (He.ga K "BadEntry") He.veBase "ValueError.__new__" = true ∧ PySem.W.keepIn K (.ref (He.ga K "BadEntry")) = true ∧ PySem.W.subIn K (.ref (He.ga K "BadEntry")) (.type "BaseException") = some true ∧ PySem.W.typeIn K (.ref (He.ga K "BadEntry")) = some (.type "type") := He.exc_ok (T.s.fact 7 (f := .exc "BadEntry"))
theorem gl_BadWord (T : Top K mg) : mg "BadWord" = some (.ref (He.ga K "BadWord")) := let ⟨_, X, G⟩ := T.g; He.glo_ok X G (T.s.fact 8 (f := .glo "BadWord"))
theorem xc_BadWord (T : Top K mg) : PySem.W.excIn K (He.ga K "BadWord") He.veBase "ValueError.__new__" = true ∧ PySem.W.keepIn K (.ref (He.ga K "BadWord")) = true ∧ PySem.W.subIn K (.ref (He.ga K "BadWord")) (.type "BaseException") = some true ∧ PySem.W.typeIn K (.ref (He.ga K "BadWord")) = some (.type "type") := He.exc_ok (T.s.fact 9 (f := .exc "BadWord"))
theorem gl_Dice (T : Top K mg) : mg "Dice" = some (.ref (He.ga K "Dice")) := let ⟨_, X, G⟩ := T.g; He.glo_ok X G (T.s.fact 10 (f := .glo "Dice"))
theorem cl_Dice (T : Top K mg) : Cls K (He.ga K "Dice") := He.cls_ok (T.s.fact 11 (f := .cls "Dice"))
theorem mk_Dice (T : Top K mg) : Mk K (He.ga K "Dice") (He.ma K (He.ga K "Dice") "__init__") := He.mkr_ok (T.s.fact 12 (f := .mkr "Dice"))
theorem na_Dice_number (T : Top K mg) : NoAttr K (He.ga K "Dice") "number" := He.noat_ok (T.s.fact 13 (f := .noat "Dice" "number"))
theorem me_Dice_below (T : Top K mg) : Meth K (He.ga K "Dice") "below" (He.ma K (He.ga K "Dice") "below") := He.meth_ok (T.s.fact 14 (f := .meth "Dice" "below"))
theorem gl_Queue (T : Top K mg) : mg "Queue" = some (.ref (He.ga K "Queue")) := let ⟨_, X, G⟩ := T.g; He.glo_ok X G (T.s.fact 15 (f := .glo "Queue"))
theorem cl_Queue (T : Top K mg) : Cls K (He.ga K "Queue") := He.cls_ok (T.s.fact 16 (f := .cls "Queue"))
theorem mk_Queue (T : Top K mg) : Mk K (He.ga K "Queue") (He.ma K (He.ga K "Queue") "__init__") := He.mkr_ok (T.s.fact 17 (f := .mkr "Queue"))
theorem na_Queue_tunes (T : Top K mg) : NoAttr K (He.ga K "Queue") "tunes" := He.noat_ok (T.s.fact 18 (f := .noat "Queue" "tunes"))
theorem na_Queue_turn (T : Top K mg) : NoAttr K (He.ga K "Queue") "turn" := He.noat_ok (T.s.fact 19 (f := .noat "Queue" "turn"))
theorem na_Queue_last (T : Top K mg) : NoAttr K (He.ga K "Queue") "last" := He.noat_ok (T.s.fact 20 (f := .noat "Queue" "last"))
theorem me_Queue_entries (T : Top K mg) : Meth K (He.ga K "Queue") "entries" (He.ma K (He.ga K "Queue") "entries") := He.meth_ok (T.s.fact 21 (f := .meth "Queue" "entries"))
theorem me_Queue_need (T : Top K mg) : Meth K (He.ga K "Queue") "need" (He.ma K (He.ga K "Queue") "need") := He.meth_ok (T.s.fact 22 (f := .meth "Queue" "need"))
theorem me_Queue_tune (T : Top K mg) : Meth K (He.ga K "Queue") "tune" (He.ma K (He.ga K "Queue") "tune") := He.meth_ok (T.s.fact 23 (f := .meth "Queue" "tune"))
theorem me_Queue_put (T : Top K mg) : Meth K (He.ga K "Queue") "put" (He.ma K (He.ga K "Queue") "put") := He.meth_ok (T.s.fact 24 (f := .meth "Queue" "put"))
theorem me_Queue_remove (T : Top K mg) : Meth K (He.ga K "Queue") "remove" (He.ma K (He.ga K "Queue") "remove") := He.meth_ok (T.s.fact 25 (f := .meth "Queue" "remove"))
theorem me_Queue_move (T : Top K mg) : Meth K (He.ga K "Queue") "move" (He.ma K (He.ga K "Queue") "move") := He.meth_ok (T.s.fact 26 (f := .meth "Queue" "move"))
theorem me_Queue_place (T : Top K mg) : Meth K (He.ga K "Queue") "place" (He.ma K (He.ga K "Queue") "place") := He.meth_ok (T.s.fact 27 (f := .meth "Queue" "place"))
theorem gl_Order (T : Top K mg) : mg "Order" = some (.ref (He.ga K "Order")) := let ⟨_, X, G⟩ := T.g; He.glo_ok X G (T.s.fact 28 (f := .glo "Order"))
theorem cl_Order (T : Top K mg) : Cls K (He.ga K "Order") := He.cls_ok (T.s.fact 29 (f := .cls "Order"))
theorem mk_Order (T : Top K mg) : Mk K (He.ga K "Order") (He.ma K (He.ga K "Order") "__init__") := He.mkr_ok (T.s.fact 30 (f := .mkr "Order"))
theorem na_Order_queue (T : Top K mg) : NoAttr K (He.ga K "Order") "queue" := He.noat_ok (T.s.fact 31 (f := .noat "Order" "queue"))
theorem na_Order_dice (T : Top K mg) : NoAttr K (He.ga K "Order") "dice" := He.noat_ok (T.s.fact 32 (f := .noat "Order" "dice"))
theorem na_Order_is_mixed (T : Top K mg) : NoAttr K (He.ga K "Order") "is_mixed" := He.noat_ok (T.s.fact 33 (f := .noat "Order" "is_mixed"))
theorem na_Order_again (T : Top K mg) : NoAttr K (He.ga K "Order") "again" := He.noat_ok (T.s.fact 34 (f := .noat "Order" "again"))
theorem na_Order_deck (T : Top K mg) : NoAttr K (He.ga K "Order") "deck" := He.noat_ok (T.s.fact 35 (f := .noat "Order" "deck"))
theorem na_Order_is_gone (T : Top K mg) : NoAttr K (He.ga K "Order") "is_gone" := He.noat_ok (T.s.fact 36 (f := .noat "Order" "is_gone"))
theorem na_Order_behind (T : Top K mg) : NoAttr K (He.ga K "Order") "behind" := He.noat_ok (T.s.fact 37 (f := .noat "Order" "behind"))
theorem me_Order_set_again (T : Top K mg) : Meth K (He.ga K "Order") "set_again" (He.ma K (He.ga K "Order") "set_again") := He.meth_ok (T.s.fact 38 (f := .meth "Order" "set_again"))
theorem me_Order_set_mixed (T : Top K mg) : Meth K (He.ga K "Order") "set_mixed" (He.ma K (He.ga K "Order") "set_mixed") := He.meth_ok (T.s.fact 39 (f := .meth "Order" "set_mixed"))
theorem me_Order_put (T : Top K mg) : Meth K (He.ga K "Order") "put" (He.ma K (He.ga K "Order") "put") := He.meth_ok (T.s.fact 40 (f := .meth "Order" "put"))
theorem me_Order_remove (T : Top K mg) : Meth K (He.ga K "Order") "remove" (He.ma K (He.ga K "Order") "remove") := He.meth_ok (T.s.fact 41 (f := .meth "Order" "remove"))
theorem me_Order_next_plain (T : Top K mg) : Meth K (He.ga K "Order") "next_plain" (He.ma K (He.ga K "Order") "next_plain") := He.meth_ok (T.s.fact 42 (f := .meth "Order" "next_plain"))
theorem me_Order_next_mixed (T : Top K mg) : Meth K (He.ga K "Order") "next_mixed" (He.ma K (He.ga K "Order") "next_mixed") := He.meth_ok (T.s.fact 43 (f := .meth "Order" "next_mixed"))
theorem me_Order_after (T : Top K mg) : Meth K (He.ga K "Order") "after" (He.ma K (He.ga K "Order") "after") := He.meth_ok (T.s.fact 44 (f := .meth "Order" "after"))
theorem me_Order_skip (T : Top K mg) : Meth K (He.ga K "Order") "skip" (He.ma K (He.ga K "Order") "skip") := He.meth_ok (T.s.fact 45 (f := .meth "Order" "skip"))
theorem me_Order_first (T : Top K mg) : Meth K (He.ga K "Order") "first" (He.ma K (He.ga K "Order") "first") := He.meth_ok (T.s.fact 46 (f := .meth "Order" "first"))
theorem me_Order_began (T : Top K mg) : Meth K (He.ga K "Order") "began" (He.ma K (He.ga K "Order") "began") := He.meth_ok (T.s.fact 47 (f := .meth "Order" "began"))
theorem xm_RoadError_RoadError (T : Top K mg) : PySem.W.exmOne K (.ref (He.ga K "RoadError")) (.ref (He.ga K "RoadError")) = some true := He.exm_ok (T.s.fact 48 (f := .exm "RoadError" "RoadError" true))
theorem xm_BadTune_RoadError (T : Top K mg) : PySem.W.exmOne K (.ref (He.ga K "BadTune")) (.ref (He.ga K "RoadError")) = some true := He.exm_ok (T.s.fact 49 (f := .exm "BadTune" "RoadError" true))
theorem xm_BadNumber_RoadError (T : Top K mg) : PySem.W.exmOne K (.ref (He.ga K "BadNumber")) (.ref (He.ga K "RoadError")) = some true := He.exm_ok (T.s.fact 50 (f := .exm "BadNumber" "RoadError" true))
theorem xm_BadEntry_RoadError (T : Top K mg) : PySem.W.exmOne K (.ref (He.ga K "BadEntry")) (.ref (He.ga K "RoadError")) = some true := He.exm_ok (T.s.fact 51 (f := .exm "BadEntry" "RoadError" true))
theorem xm_BadWord_RoadError (T : Top K mg) : PySem.W.exmOne K (.ref (He.ga K "BadWord")) (.ref (He.ga K "RoadError")) = some true := He.exm_ok (T.s.fact 52 (f := .exm "BadWord" "RoadError" true))
theorem gl_mixed (T : Top K mg) : mg "mixed" = some (.ref (He.ga K "mixed")) := let ⟨_, X, G⟩ := T.g; He.glo_ok X G (T.s.fact 53 (f := .glo "mixed"))
theorem gl__law_cell (T : Top K mg) : mg "_law_cell" = some (.ref (He.ga K "_law_cell")) := let ⟨_, X, G⟩ := T.g; He.glo_ok X G (T.s.fact 54 (f := .glo "_law_cell"))
theorem gl__law_mix (T : Top K mg) : mg "_law_mix" = some (.ref (He.ga K "_law_mix")) := let ⟨_, X, G⟩ := T.g; He.glo_ok X G (T.s.fact 55 (f := .glo "_law_mix"))
theorem gl__law_draw (T : Top K mg) : mg "_law_draw" = some (.ref (He.ga K "_law_draw")) := let ⟨_, X, G⟩ := T.g; He.glo_ok X G (T.s.fact 56 (f := .glo "_law_draw"))
theorem gl__law_pick (T : Top K mg) : mg "_law_pick" = some (.ref (He.ga K "_law_pick")) := let ⟨_, X, G⟩ := T.g; He.glo_ok X G (T.s.fact 57 (f := .glo "_law_pick"))
theorem gl__law_refusal (T : Top K mg) : mg "_law_refusal" = some (.ref (He.ga K "_law_refusal")) := let ⟨_, X, G⟩ := T.g; He.glo_ok X G (T.s.fact 58 (f := .glo "_law_refusal"))
theorem gl__law_below (T : Top K mg) : mg "_law_below" = some (.ref (He.ga K "_law_below")) := let ⟨_, X, G⟩ := T.g; He.glo_ok X G (T.s.fact 59 (f := .glo "_law_below"))
theorem gl__law_mixed (T : Top K mg) : mg "_law_mixed" = some (.ref (He.ga K "_law_mixed")) := let ⟨_, X, G⟩ := T.g; He.glo_ok X G (T.s.fact 60 (f := .glo "_law_mixed"))
theorem gl__law_order (T : Top K mg) : mg "_law_order" = some (.ref (He.ga K "_law_order")) := let ⟨_, X, G⟩ := T.g; He.glo_ok X G (T.s.fact 61 (f := .glo "_law_order"))
theorem gl__law_put (T : Top K mg) : mg "_law_put" = some (.ref (He.ga K "_law_put")) := let ⟨_, X, G⟩ := T.g; He.glo_ok X G (T.s.fact 62 (f := .glo "_law_put"))
theorem gl__law_behind (T : Top K mg) : mg "_law_behind" = some (.ref (He.ga K "_law_behind")) := let ⟨_, X, G⟩ := T.g; He.glo_ok X G (T.s.fact 63 (f := .glo "_law_behind"))
theorem gl__law_remove (T : Top K mg) : mg "_law_remove" = some (.ref (He.ga K "_law_remove")) := let ⟨_, X, G⟩ := T.g; He.glo_ok X G (T.s.fact 64 (f := .glo "_law_remove"))
theorem gl__law_skip (T : Top K mg) : mg "_law_skip" = some (.ref (He.ga K "_law_skip")) := let ⟨_, X, G⟩ := T.g; He.glo_ok X G (T.s.fact 65 (f := .glo "_law_skip"))
theorem gl__law_after (T : Top K mg) : mg "_law_after" = some (.ref (He.ga K "_law_after")) := let ⟨_, X, G⟩ := T.g; He.glo_ok X G (T.s.fact 66 (f := .glo "_law_after"))
theorem gl__law_first (T : Top K mg) : mg "_law_first" = some (.ref (He.ga K "_law_first")) := let ⟨_, X, G⟩ := T.g; He.glo_ok X G (T.s.fact 67 (f := .glo "_law_first"))
theorem gl__law_set_mixed (T : Top K mg) : mg "_law_set_mixed" = some (.ref (He.ga K "_law_set_mixed")) := let ⟨_, X, G⟩ := T.g; He.glo_ok X G (T.s.fact 68 (f := .glo "_law_set_mixed"))
theorem gl__law_began (T : Top K mg) : mg "_law_began" = some (.ref (He.ga K "_law_began")) := let ⟨_, X, G⟩ := T.g; He.glo_ok X G (T.s.fact 69 (f := .glo "_law_began"))
theorem gl__law_told (T : Top K mg) : mg "_law_told" = some (.ref (He.ga K "_law_told")) := let ⟨_, X, G⟩ := T.g; He.glo_ok X G (T.s.fact 70 (f := .glo "_law_told"))
theorem gl__law_turned (T : Top K mg) : mg "_law_turned" = some (.ref (He.ga K "_law_turned")) := let ⟨_, X, G⟩ := T.g; He.glo_ok X G (T.s.fact 71 (f := .glo "_law_turned"))
theorem gl__law_call (T : Top K mg) : mg "_law_call" = some (.ref (He.ga K "_law_call")) := let ⟨_, X, G⟩ := T.g; He.glo_ok X G (T.s.fact 72 (f := .glo "_law_call"))
theorem gl_law (T : Top K mg) : mg "law" = some (.ref (He.ga K "law")) := let ⟨_, X, G⟩ := T.g; He.glo_ok X G (T.s.fact 73 (f := .glo "law"))
theorem gi_WHEEL (T : Top K mg) : ∃ t, mg "WHEEL" = some (.int 6075 t) := let ⟨_, X, G⟩ := T.g; He.int_ok X G (T.s.fact 74 (f := .int "WHEEL" 6075))
theorem gi_TIMES (T : Top K mg) : ∃ t, mg "TIMES" = some (.int 106 t) := let ⟨_, X, G⟩ := T.g; He.int_ok X G (T.s.fact 75 (f := .int "TIMES" 106))
theorem gi_MORE (T : Top K mg) : ∃ t, mg "MORE" = some (.int 1283 t) := let ⟨_, X, G⟩ := T.g; He.int_ok X G (T.s.fact 76 (f := .int "MORE" 1283))
theorem gi_MOST (T : Top K mg) : ∃ t, mg "MOST" = some (.int 60 t) := let ⟨_, X, G⟩ := T.g; He.int_ok X G (T.s.fact 77 (f := .int "MOST" 60))
theorem gi_MOST_ENTRIES (T : Top K mg) : ∃ t, mg "MOST_ENTRIES" = some (.int 12 t) := let ⟨_, X, G⟩ := T.g; He.int_ok X G (T.s.fact 78 (f := .int "MOST_ENTRIES" 12))
theorem gl_REPEATS (T : Top K mg) : mg "REPEATS" = some (.ref (He.ga K "REPEATS")) := let ⟨_, X, G⟩ := T.g; He.glo_ok X G (T.s.fact 79 (f := .glo "REPEATS"))
theorem fr_len (T : Top K mg) : mg "len" = none := let ⟨_, X, G⟩ := T.g; He.free_ok X G (T.s.fact 80 (f := .free "len"))
theorem fr_range (T : Top K mg) : mg "range" = none := let ⟨_, X, G⟩ := T.g; He.free_ok X G (T.s.fact 81 (f := .free "range"))
theorem fr_list (T : Top K mg) : mg "list" = none := let ⟨_, X, G⟩ := T.g; He.free_ok X G (T.s.fact 82 (f := .free "list"))
theorem fr_isinstance (T : Top K mg) : mg "isinstance" = none := let ⟨_, X, G⟩ := T.g; He.free_ok X G (T.s.fact 83 (f := .free "isinstance"))
theorem fr_ValueError (T : Top K mg) : mg "ValueError" = none := let ⟨_, X, G⟩ := T.g; He.free_ok X G (T.s.fact 84 (f := .free "ValueError"))
theorem xb_RoadError (T : Top K mg) : ExcC K (He.ga K "RoadError") := excB_ok (T.s.more 1 (f := fun K => excB K "RoadError"))
theorem xb_BadTune (T : Top K mg) : ExcC K (He.ga K "BadTune") := excB_ok (T.s.more 2 (f := fun K => excB K "BadTune"))
theorem xb_BadNumber (T : Top K mg) : ExcC K (He.ga K "BadNumber") := excB_ok (T.s.more 3 (f := fun K => excB K "BadNumber"))
theorem xb_BadEntry (T : Top K mg) : ExcC K (He.ga K "BadEntry") := excB_ok (T.s.more 4 (f := fun K => excB K "BadEntry"))
theorem xb_BadWord (T : Top K mg) : ExcC K (He.ga K "BadWord") := excB_ok (T.s.more 5 (f := fun K => excB K "BadWord"))
theorem ki_BadTune_BadTune (T : Top K mg) : PySem.W.kitOne K (.ref (He.ga K "BadTune")) (.ref (He.ga K "BadTune")) = some true := kitB2_ok (T.s.more 6 (f := fun K => kitB2 K "BadTune" "BadTune" true))
theorem ki_BadTune_BadNumber (T : Top K mg) : PySem.W.kitOne K (.ref (He.ga K "BadTune")) (.ref (He.ga K "BadNumber")) = some false := kitB2_ok (T.s.more 7 (f := fun K => kitB2 K "BadTune" "BadNumber" false))
theorem ki_BadTune_BadEntry (T : Top K mg) : PySem.W.kitOne K (.ref (He.ga K "BadTune")) (.ref (He.ga K "BadEntry")) = some false := kitB2_ok (T.s.more 8 (f := fun K => kitB2 K "BadTune" "BadEntry" false))
theorem ki_BadTune_BadWord (T : Top K mg) : PySem.W.kitOne K (.ref (He.ga K "BadTune")) (.ref (He.ga K "BadWord")) = some false := kitB2_ok (T.s.more 9 (f := fun K => kitB2 K "BadTune" "BadWord" false))
theorem ki_BadTune_ValueError (T : Top K mg) : PySem.W.kitOne K (.ref (He.ga K "BadTune")) (.type "ValueError") = some true := kitV_ok (T.s.more 10 (f := fun K => kitV K "BadTune" "ValueError" true))
theorem ki_BadNumber_BadTune (T : Top K mg) : PySem.W.kitOne K (.ref (He.ga K "BadNumber")) (.ref (He.ga K "BadTune")) = some false := kitB2_ok (T.s.more 11 (f := fun K => kitB2 K "BadNumber" "BadTune" false))
theorem ki_BadNumber_BadNumber (T : Top K mg) : PySem.W.kitOne K (.ref (He.ga K "BadNumber")) (.ref (He.ga K "BadNumber")) = some true := kitB2_ok (T.s.more 12 (f := fun K => kitB2 K "BadNumber" "BadNumber" true))
theorem ki_BadNumber_BadEntry (T : Top K mg) : PySem.W.kitOne K (.ref (He.ga K "BadNumber")) (.ref (He.ga K "BadEntry")) = some false := kitB2_ok (T.s.more 13 (f := fun K => kitB2 K "BadNumber" "BadEntry" false))
theorem ki_BadNumber_BadWord (T : Top K mg) : PySem.W.kitOne K (.ref (He.ga K "BadNumber")) (.ref (He.ga K "BadWord")) = some false := kitB2_ok (T.s.more 14 (f := fun K => kitB2 K "BadNumber" "BadWord" false))
theorem ki_BadNumber_ValueError (T : Top K mg) : PySem.W.kitOne K (.ref (He.ga K "BadNumber")) (.type "ValueError") = some true := kitV_ok (T.s.more 15 (f := fun K => kitV K "BadNumber" "ValueError" true))
theorem ki_BadEntry_BadTune (T : Top K mg) : PySem.W.kitOne K (.ref (He.ga K "BadEntry")) (.ref (He.ga K "BadTune")) = some false := kitB2_ok (T.s.more 16 (f := fun K => kitB2 K "BadEntry" "BadTune" false))
theorem ki_BadEntry_BadNumber (T : Top K mg) : PySem.W.kitOne K (.ref (He.ga K "BadEntry")) (.ref (He.ga K "BadNumber")) = some false := kitB2_ok (T.s.more 17 (f := fun K => kitB2 K "BadEntry" "BadNumber" false))
theorem ki_BadEntry_BadEntry (T : Top K mg) : PySem.W.kitOne K (.ref (He.ga K "BadEntry")) (.ref (He.ga K "BadEntry")) = some true := kitB2_ok (T.s.more 18 (f := fun K => kitB2 K "BadEntry" "BadEntry" true))
theorem ki_BadEntry_BadWord (T : Top K mg) : PySem.W.kitOne K (.ref (He.ga K "BadEntry")) (.ref (He.ga K "BadWord")) = some false := kitB2_ok (T.s.more 19 (f := fun K => kitB2 K "BadEntry" "BadWord" false))
theorem ki_BadEntry_ValueError (T : Top K mg) : PySem.W.kitOne K (.ref (He.ga K "BadEntry")) (.type "ValueError") = some true := kitV_ok (T.s.more 20 (f := fun K => kitV K "BadEntry" "ValueError" true))
theorem ki_BadWord_BadTune (T : Top K mg) : PySem.W.kitOne K (.ref (He.ga K "BadWord")) (.ref (He.ga K "BadTune")) = some false := kitB2_ok (T.s.more 21 (f := fun K => kitB2 K "BadWord" "BadTune" false))
theorem ki_BadWord_BadNumber (T : Top K mg) : PySem.W.kitOne K (.ref (He.ga K "BadWord")) (.ref (He.ga K "BadNumber")) = some false := kitB2_ok (T.s.more 22 (f := fun K => kitB2 K "BadWord" "BadNumber" false))
theorem ki_BadWord_BadEntry (T : Top K mg) : PySem.W.kitOne K (.ref (He.ga K "BadWord")) (.ref (He.ga K "BadEntry")) = some false := kitB2_ok (T.s.more 23 (f := fun K => kitB2 K "BadWord" "BadEntry" false))
theorem ki_BadWord_BadWord (T : Top K mg) : PySem.W.kitOne K (.ref (He.ga K "BadWord")) (.ref (He.ga K "BadWord")) = some true := kitB2_ok (T.s.more 24 (f := fun K => kitB2 K "BadWord" "BadWord" true))
theorem ki_BadWord_ValueError (T : Top K mg) : PySem.W.kitOne K (.ref (He.ga K "BadWord")) (.type "ValueError") = some true := kitV_ok (T.s.more 25 (f := fun K => kitV K "BadWord" "ValueError" true))
theorem tu_REPEATS (T : Top K mg) (H : Hp) : SqT K H (He.ga K "REPEATS") (([.str "none", .str "all", .str "one"] : List He.Dv).map (He.Dv.v K)) := He.tupB_ok (T.s.more 26 (f := fun K => He.tupB K "REPEATS" [.str "none", .str "all", .str "one"])) H
instance [T : Top K mg] : FldI K (He.ga K "Dice") "number" := ⟨cl_Dice T, na_Dice_number T⟩
instance [T : Top K mg] : FldI K (He.ga K "Queue") "tunes" := ⟨cl_Queue T, na_Queue_tunes T⟩
instance [T : Top K mg] : FldI K (He.ga K "Queue") "turn" := ⟨cl_Queue T, na_Queue_turn T⟩
instance [T : Top K mg] : FldI K (He.ga K "Queue") "last" := ⟨cl_Queue T, na_Queue_last T⟩
instance [T : Top K mg] : FldI K (He.ga K "Order") "queue" := ⟨cl_Order T, na_Order_queue T⟩
instance [T : Top K mg] : FldI K (He.ga K "Order") "dice" := ⟨cl_Order T, na_Order_dice T⟩
instance [T : Top K mg] : FldI K (He.ga K "Order") "is_mixed" := ⟨cl_Order T, na_Order_is_mixed T⟩
instance [T : Top K mg] : FldI K (He.ga K "Order") "again" := ⟨cl_Order T, na_Order_again T⟩
instance [T : Top K mg] : FldI K (He.ga K "Order") "deck" := ⟨cl_Order T, na_Order_deck T⟩
instance [T : Top K mg] : FldI K (He.ga K "Order") "is_gone" := ⟨cl_Order T, na_Order_is_gone T⟩
instance [T : Top K mg] : FldI K (He.ga K "Order") "behind" := ⟨cl_Order T, na_Order_behind T⟩
theorem df_Dice_init (T : Top K mg) : ∃ fd, FunD K "__init__" "Dice.__init__" (defArgs s_Dice_init) (defBody s_Dice_init) (defScope s_Dice_init) [] [] (He.fAd K ("Dice", some "__init__")) fd := T.s.d.def_ 0 (d := d_Dice_init)
theorem df_Dice_below (T : Top K mg) : ∃ fd, FunD K "below" "Dice.below" (defArgs s_Dice_below) (defBody s_Dice_below) (defScope s_Dice_below) [] [] (He.fAd K ("Dice", some "below")) fd := T.s.d.def_ 1 (d := d_Dice_below)
theorem df_mixed (T : Top K mg) : ∃ fd, FunD K "mixed" "mixed" (defArgs s_mixed) (defBody s_mixed) (defScope s_mixed) [] [] (He.fAd K ("mixed", none)) fd := T.s.d.def_ 2 (d := d_mixed)
theorem df_Queue_init (T : Top K mg) : ∃ fd, FunD K "__init__" "Queue.__init__" (defArgs s_Queue_init) (defBody s_Queue_init) (defScope s_Queue_init) [] [] (He.fAd K ("Queue", some "__init__")) fd := T.s.d.def_ 3 (d := d_Queue_init)
theorem df_Queue_entries (T : Top K mg) : ∃ fd, FunD K "entries" "Queue.entries" (defArgs s_Queue_entries) (defBody s_Queue_entries) (defScope s_Queue_entries) [] [] (He.fAd K ("Queue", some "entries")) fd := T.s.d.def_ 4 (d := d_Queue_entries)
theorem df_Queue_need (T : Top K mg) : ∃ fd, FunD K "need" "Queue.need" (defArgs s_Queue_need) (defBody s_Queue_need) (defScope s_Queue_need) [] [] (He.fAd K ("Queue", some "need")) fd := T.s.d.def_ 5 (d := d_Queue_need)
theorem df_Queue_tune (T : Top K mg) : ∃ fd, FunD K "tune" "Queue.tune" (defArgs s_Queue_tune) (defBody s_Queue_tune) (defScope s_Queue_tune) [] [] (He.fAd K ("Queue", some "tune")) fd := T.s.d.def_ 6 (d := d_Queue_tune)
theorem df_Queue_put (T : Top K mg) : ∃ fd, FunD K "put" "Queue.put" (defArgs s_Queue_put) (defBody s_Queue_put) (defScope s_Queue_put) [] [] (He.fAd K ("Queue", some "put")) fd := T.s.d.def_ 7 (d := d_Queue_put)
theorem df_Queue_remove (T : Top K mg) : ∃ fd, FunD K "remove" "Queue.remove" (defArgs s_Queue_remove) (defBody s_Queue_remove) (defScope s_Queue_remove) [] [] (He.fAd K ("Queue", some "remove")) fd := T.s.d.def_ 8 (d := d_Queue_remove)
theorem df_Queue_move (T : Top K mg) : ∃ fd, FunD K "move" "Queue.move" (defArgs s_Queue_move) (defBody s_Queue_move) (defScope s_Queue_move) [] [] (He.fAd K ("Queue", some "move")) fd := T.s.d.def_ 9 (d := d_Queue_move)
theorem df_Queue_place (T : Top K mg) : ∃ fd, FunD K "place" "Queue.place" (defArgs s_Queue_place) (defBody s_Queue_place) (defScope s_Queue_place) [] [] (He.fAd K ("Queue", some "place")) fd := T.s.d.def_ 10 (d := d_Queue_place)
theorem df_Order_init (T : Top K mg) : ∃ fd, FunD K "__init__" "Order.__init__" (defArgs s_Order_init) (defBody s_Order_init) (defScope s_Order_init) [] [] (He.fAd K ("Order", some "__init__")) fd := T.s.d.def_ 11 (d := d_Order_init)
theorem df_Order_set_again (T : Top K mg) : ∃ fd, FunD K "set_again" "Order.set_again" (defArgs s_Order_set_again) (defBody s_Order_set_again) (defScope s_Order_set_again) [] [] (He.fAd K ("Order", some "set_again")) fd := T.s.d.def_ 12 (d := d_Order_set_again)
theorem df_Order_set_mixed (T : Top K mg) : ∃ fd, FunD K "set_mixed" "Order.set_mixed" (defArgs s_Order_set_mixed) (defBody s_Order_set_mixed) (defScope s_Order_set_mixed) [] [] (He.fAd K ("Order", some "set_mixed")) fd := T.s.d.def_ 13 (d := d_Order_set_mixed)
theorem df_Order_put (T : Top K mg) : ∃ fd, FunD K "put" "Order.put" (defArgs s_Order_put) (defBody s_Order_put) (defScope s_Order_put) [] [] (He.fAd K ("Order", some "put")) fd := T.s.d.def_ 14 (d := d_Order_put)
theorem df_Order_remove (T : Top K mg) : ∃ fd, FunD K "remove" "Order.remove" (defArgs s_Order_remove) (defBody s_Order_remove) (defScope s_Order_remove) [] [] (He.fAd K ("Order", some "remove")) fd := T.s.d.def_ 15 (d := d_Order_remove)
theorem df_Order_next_plain (T : Top K mg) : ∃ fd, FunD K "next_plain" "Order.next_plain" (defArgs s_Order_next_plain) (defBody s_Order_next_plain) (defScope s_Order_next_plain) [] [] (He.fAd K ("Order", some "next_plain")) fd := T.s.d.def_ 16 (d := d_Order_next_plain)
theorem df_Order_next_mixed (T : Top K mg) : ∃ fd, FunD K "next_mixed" "Order.next_mixed" (defArgs s_Order_next_mixed) (defBody s_Order_next_mixed) (defScope s_Order_next_mixed) [] [] (He.fAd K ("Order", some "next_mixed")) fd := T.s.d.def_ 17 (d := d_Order_next_mixed)
theorem df_Order_after (T : Top K mg) : ∃ fd, FunD K "after" "Order.after" (defArgs s_Order_after) (defBody s_Order_after) (defScope s_Order_after) [] [] (He.fAd K ("Order", some "after")) fd := T.s.d.def_ 18 (d := d_Order_after)
theorem df_Order_skip (T : Top K mg) : ∃ fd, FunD K "skip" "Order.skip" (defArgs s_Order_skip) (defBody s_Order_skip) (defScope s_Order_skip) [] [] (He.fAd K ("Order", some "skip")) fd := T.s.d.def_ 19 (d := d_Order_skip)
theorem df_Order_first (T : Top K mg) : ∃ fd, FunD K "first" "Order.first" (defArgs s_Order_first) (defBody s_Order_first) (defScope s_Order_first) [] [] (He.fAd K ("Order", some "first")) fd := T.s.d.def_ 20 (d := d_Order_first)
theorem df_Order_began (T : Top K mg) : ∃ fd, FunD K "began" "Order.began" (defArgs s_Order_began) (defBody s_Order_began) (defScope s_Order_began) [] [] (He.fAd K ("Order", some "began")) fd := T.s.d.def_ 21 (d := d_Order_began)
theorem df_l_cell (T : Top K mg) : ∃ fd, FunD K "_law_cell" "_law_cell" (defArgs s_l_cell) (defBody s_l_cell) (defScope s_l_cell) [] [] (He.fAd K ("_law_cell", none)) fd := T.s.d.def_ 22 (d := d_l_cell)
theorem df_l_mix (T : Top K mg) : ∃ fd, FunD K "_law_mix" "_law_mix" (defArgs s_l_mix) (defBody s_l_mix) (defScope s_l_mix) [] [] (He.fAd K ("_law_mix", none)) fd := T.s.d.def_ 23 (d := d_l_mix)
theorem df_l_draw (T : Top K mg) : ∃ fd, FunD K "_law_draw" "_law_draw" (defArgs s_l_draw) (defBody s_l_draw) (defScope s_l_draw) [] [] (He.fAd K ("_law_draw", none)) fd := T.s.d.def_ 24 (d := d_l_draw)
theorem df_l_pick (T : Top K mg) : ∃ fd, FunD K "_law_pick" "_law_pick" (defArgs s_l_pick) (defBody s_l_pick) (defScope s_l_pick) [] [] (He.fAd K ("_law_pick", none)) fd := T.s.d.def_ 25 (d := d_l_pick)
theorem df_l_refusal (T : Top K mg) : ∃ fd, FunD K "_law_refusal" "_law_refusal" (defArgs s_l_refusal) (defBody s_l_refusal) (defScope s_l_refusal) [] [] (He.fAd K ("_law_refusal", none)) fd := T.s.d.def_ 26 (d := d_l_refusal)
theorem df_l_below (T : Top K mg) : ∃ fd, FunD K "_law_below" "_law_below" (defArgs s_l_below) (defBody s_l_below) (defScope s_l_below) [] [] (He.fAd K ("_law_below", none)) fd := T.s.d.def_ 27 (d := d_l_below)
theorem df_l_mixed (T : Top K mg) : ∃ fd, FunD K "_law_mixed" "_law_mixed" (defArgs s_l_mixed) (defBody s_l_mixed) (defScope s_l_mixed) [] [] (He.fAd K ("_law_mixed", none)) fd := T.s.d.def_ 28 (d := d_l_mixed)
theorem df_l_order (T : Top K mg) : ∃ fd, FunD K "_law_order" "_law_order" (defArgs s_l_order) (defBody s_l_order) (defScope s_l_order) [] [] (He.fAd K ("_law_order", none)) fd := T.s.d.def_ 29 (d := d_l_order)
theorem df_l_put (T : Top K mg) : ∃ fd, FunD K "_law_put" "_law_put" (defArgs s_l_put) (defBody s_l_put) (defScope s_l_put) [] [] (He.fAd K ("_law_put", none)) fd := T.s.d.def_ 30 (d := d_l_put)
theorem df_l_behind (T : Top K mg) : ∃ fd, FunD K "_law_behind" "_law_behind" (defArgs s_l_behind) (defBody s_l_behind) (defScope s_l_behind) [] [] (He.fAd K ("_law_behind", none)) fd := T.s.d.def_ 31 (d := d_l_behind)
theorem df_l_remove (T : Top K mg) : ∃ fd, FunD K "_law_remove" "_law_remove" (defArgs s_l_remove) (defBody s_l_remove) (defScope s_l_remove) [] [] (He.fAd K ("_law_remove", none)) fd := T.s.d.def_ 32 (d := d_l_remove)
theorem df_l_skip (T : Top K mg) : ∃ fd, FunD K "_law_skip" "_law_skip" (defArgs s_l_skip) (defBody s_l_skip) (defScope s_l_skip) [] [] (He.fAd K ("_law_skip", none)) fd := T.s.d.def_ 33 (d := d_l_skip)
theorem df_l_after (T : Top K mg) : ∃ fd, FunD K "_law_after" "_law_after" (defArgs s_l_after) (defBody s_l_after) (defScope s_l_after) [] [] (He.fAd K ("_law_after", none)) fd := T.s.d.def_ 34 (d := d_l_after)
theorem df_l_first (T : Top K mg) : ∃ fd, FunD K "_law_first" "_law_first" (defArgs s_l_first) (defBody s_l_first) (defScope s_l_first) [] [] (He.fAd K ("_law_first", none)) fd := T.s.d.def_ 35 (d := d_l_first)
theorem df_l_set_mixed (T : Top K mg) : ∃ fd, FunD K "_law_set_mixed" "_law_set_mixed" (defArgs s_l_set_mixed) (defBody s_l_set_mixed) (defScope s_l_set_mixed) [] [] (He.fAd K ("_law_set_mixed", none)) fd := T.s.d.def_ 36 (d := d_l_set_mixed)
theorem df_l_began (T : Top K mg) : ∃ fd, FunD K "_law_began" "_law_began" (defArgs s_l_began) (defBody s_l_began) (defScope s_l_began) [] [] (He.fAd K ("_law_began", none)) fd := T.s.d.def_ 37 (d := d_l_began)
theorem df_l_told (T : Top K mg) : ∃ fd, FunD K "_law_told" "_law_told" (defArgs s_l_told) (defBody s_l_told) (defScope s_l_told) [] [] (He.fAd K ("_law_told", none)) fd := T.s.d.def_ 38 (d := d_l_told)
theorem df_l_turned (T : Top K mg) : ∃ fd, FunD K "_law_turned" "_law_turned" (defArgs s_l_turned) (defBody s_l_turned) (defScope s_l_turned) [] [] (He.fAd K ("_law_turned", none)) fd := T.s.d.def_ 39 (d := d_l_turned)
theorem df_l_call (T : Top K mg) : ∃ fd, FunD K "_law_call" "_law_call" (defArgs s_l_call) (defBody s_l_call) (defScope s_l_call) [] [] (He.fAd K ("_law_call", none)) fd := T.s.d.def_ 40 (d := d_l_call)
theorem df_law (T : Top K mg) : ∃ fd, FunD K "law" "law" (defArgs s_law) (defBody s_law) (defScope s_law) [] [] (He.fAd K ("law", none)) fd := T.s.d.def_ 41 (d := d_law)
end
def nmDice : List Str := ["number"]
theorem ndDice : nmDice.Nodup := by decide +kernel
instance : ∀ {a0 : V}, Fd (nmDice.zip [a0]) "number" a0 := fun {a0} => ⟨look_zip ndDice (i := 0) rfl rfl, len_zip (by decide)⟩
instance : ∀ {a0 y : V}, Fp (nmDice.zip [a0]) "number" y (nmDice.zip [y]) := fun {a0 y} => ⟨put_zip ndDice (i := 0) rfl (by show 0 < 1; decide), len_zip (by decide)⟩
instance : ∀ {y : V}, Fp ([]) "number" y (nmDice.zip [y]) := fun {y} => ⟨put_zip_new (vs := []) ndDice rfl, (by show 0 < 1000; decide)⟩
instance : NotF nmDice "below" := ⟨by decide +kernel⟩
def nmQueue : List Str := ["tunes", "turn", "last"]
theorem ndQueue : nmQueue.Nodup := by decide +kernel
instance : ∀ {a0 a1 a2 : V}, Fd (nmQueue.zip [a0, a1, a2]) "tunes" a0 := fun {a0 a1 a2} => ⟨look_zip ndQueue (i := 0) rfl rfl, len_zip (by decide)⟩
instance : ∀ {a0 a1 a2 y : V}, Fp (nmQueue.zip [a0, a1, a2]) "tunes" y (nmQueue.zip [y, a1, a2]) := fun {a0 a1 a2 y} => ⟨put_zip ndQueue (i := 0) rfl (by show 0 < 3; decide), len_zip (by decide)⟩
instance : ∀ {y : V}, Fp ([]) "tunes" y (nmQueue.zip [y]) := fun {y} => ⟨put_zip_new (vs := []) ndQueue rfl, (by show 0 < 1000; decide)⟩
instance : ∀ {a0 a1 a2 : V}, Fd (nmQueue.zip [a0, a1, a2]) "turn" a1 := fun {a0 a1 a2} => ⟨look_zip ndQueue (i := 1) rfl rfl, len_zip (by decide)⟩
instance : ∀ {a0 a1 a2 y : V}, Fp (nmQueue.zip [a0, a1, a2]) "turn" y (nmQueue.zip [a0, y, a2]) := fun {a0 a1 a2 y} => ⟨put_zip ndQueue (i := 1) rfl (by show 1 < 3; decide), len_zip (by decide)⟩
instance : ∀ {a0 y : V}, Fp (nmQueue.zip [a0]) "turn" y (nmQueue.zip [a0, y]) := fun {a0 y} => ⟨put_zip_new (vs := [a0]) ndQueue rfl, len_zip (by decide)⟩
instance : ∀ {a0 a1 a2 : V}, Fd (nmQueue.zip [a0, a1, a2]) "last" a2 := fun {a0 a1 a2} => ⟨look_zip ndQueue (i := 2) rfl rfl, len_zip (by decide)⟩
instance : ∀ {a0 a1 a2 y : V}, Fp (nmQueue.zip [a0, a1, a2]) "last" y (nmQueue.zip [a0, a1, y]) := fun {a0 a1 a2 y} => ⟨put_zip ndQueue (i := 2) rfl (by show 2 < 3; decide), len_zip (by decide)⟩
instance : ∀ {a0 a1 y : V}, Fp (nmQueue.zip [a0, a1]) "last" y (nmQueue.zip [a0, a1, y]) := fun {a0 a1 y} => ⟨put_zip_new (vs := [a0, a1]) ndQueue rfl, len_zip (by decide)⟩
instance : NotF nmQueue "entries" := ⟨by decide +kernel⟩
instance : NotF nmQueue "need" := ⟨by decide +kernel⟩
instance : NotF nmQueue "tune" := ⟨by decide +kernel⟩
instance : NotF nmQueue "put" := ⟨by decide +kernel⟩
instance : NotF nmQueue "remove" := ⟨by decide +kernel⟩
instance : NotF nmQueue "move" := ⟨by decide +kernel⟩
instance : NotF nmQueue "place" := ⟨by decide +kernel⟩
def nmOrder : List Str := ["queue", "dice", "is_mixed", "again", "deck", "is_gone", "behind"]
theorem ndOrder : nmOrder.Nodup := by decide +kernel
instance : ∀ {a0 a1 a2 a3 a4 a5 a6 : V}, Fd (nmOrder.zip [a0, a1, a2, a3, a4, a5, a6]) "queue" a0 := fun {a0 a1 a2 a3 a4 a5 a6} => ⟨look_zip ndOrder (i := 0) rfl rfl, len_zip (by decide)⟩
instance : ∀ {a0 a1 a2 a3 a4 a5 a6 y : V}, Fp (nmOrder.zip [a0, a1, a2, a3, a4, a5, a6]) "queue" y (nmOrder.zip [y, a1, a2, a3, a4, a5, a6]) := fun {a0 a1 a2 a3 a4 a5 a6 y} => ⟨put_zip ndOrder (i := 0) rfl (by show 0 < 7; decide), len_zip (by decide)⟩
instance : ∀ {y : V}, Fp ([]) "queue" y (nmOrder.zip [y]) := fun {y} => ⟨put_zip_new (vs := []) ndOrder rfl, (by show 0 < 1000; decide)⟩
instance : ∀ {a0 a1 a2 a3 a4 a5 a6 : V}, Fd (nmOrder.zip [a0, a1, a2, a3, a4, a5, a6]) "dice" a1 := fun {a0 a1 a2 a3 a4 a5 a6} => ⟨look_zip ndOrder (i := 1) rfl rfl, len_zip (by decide)⟩
instance : ∀ {a0 a1 a2 a3 a4 a5 a6 y : V}, Fp (nmOrder.zip [a0, a1, a2, a3, a4, a5, a6]) "dice" y (nmOrder.zip [a0, y, a2, a3, a4, a5, a6]) := fun {a0 a1 a2 a3 a4 a5 a6 y} => ⟨put_zip ndOrder (i := 1) rfl (by show 1 < 7; decide), len_zip (by decide)⟩
instance : ∀ {a0 y : V}, Fp (nmOrder.zip [a0]) "dice" y (nmOrder.zip [a0, y]) := fun {a0 y} => ⟨put_zip_new (vs := [a0]) ndOrder rfl, len_zip (by decide)⟩
instance : ∀ {a0 a1 a2 a3 a4 a5 a6 : V}, Fd (nmOrder.zip [a0, a1, a2, a3, a4, a5, a6]) "is_mixed" a2 := fun {a0 a1 a2 a3 a4 a5 a6} => ⟨look_zip ndOrder (i := 2) rfl rfl, len_zip (by decide)⟩
instance : ∀ {a0 a1 a2 a3 a4 a5 a6 y : V}, Fp (nmOrder.zip [a0, a1, a2, a3, a4, a5, a6]) "is_mixed" y (nmOrder.zip [a0, a1, y, a3, a4, a5, a6]) := fun {a0 a1 a2 a3 a4 a5 a6 y} => ⟨put_zip ndOrder (i := 2) rfl (by show 2 < 7; decide), len_zip (by decide)⟩
instance : ∀ {a0 a1 y : V}, Fp (nmOrder.zip [a0, a1]) "is_mixed" y (nmOrder.zip [a0, a1, y]) := fun {a0 a1 y} => ⟨put_zip_new (vs := [a0, a1]) ndOrder rfl, len_zip (by decide)⟩
instance : ∀ {a0 a1 a2 a3 a4 a5 a6 : V}, Fd (nmOrder.zip [a0, a1, a2, a3, a4, a5, a6]) "again" a3 := fun {a0 a1 a2 a3 a4 a5 a6} => ⟨look_zip ndOrder (i := 3) rfl rfl, len_zip (by decide)⟩
instance : ∀ {a0 a1 a2 a3 a4 a5 a6 y : V}, Fp (nmOrder.zip [a0, a1, a2, a3, a4, a5, a6]) "again" y (nmOrder.zip [a0, a1, a2, y, a4, a5, a6]) := fun {a0 a1 a2 a3 a4 a5 a6 y} => ⟨put_zip ndOrder (i := 3) rfl (by show 3 < 7; decide), len_zip (by decide)⟩
instance : ∀ {a0 a1 a2 y : V}, Fp (nmOrder.zip [a0, a1, a2]) "again" y (nmOrder.zip [a0, a1, a2, y]) := fun {a0 a1 a2 y} => ⟨put_zip_new (vs := [a0, a1, a2]) ndOrder rfl, len_zip (by decide)⟩
instance : ∀ {a0 a1 a2 a3 a4 a5 a6 : V}, Fd (nmOrder.zip [a0, a1, a2, a3, a4, a5, a6]) "deck" a4 := fun {a0 a1 a2 a3 a4 a5 a6} => ⟨look_zip ndOrder (i := 4) rfl rfl, len_zip (by decide)⟩
instance : ∀ {a0 a1 a2 a3 a4 a5 a6 y : V}, Fp (nmOrder.zip [a0, a1, a2, a3, a4, a5, a6]) "deck" y (nmOrder.zip [a0, a1, a2, a3, y, a5, a6]) := fun {a0 a1 a2 a3 a4 a5 a6 y} => ⟨put_zip ndOrder (i := 4) rfl (by show 4 < 7; decide), len_zip (by decide)⟩
instance : ∀ {a0 a1 a2 a3 y : V}, Fp (nmOrder.zip [a0, a1, a2, a3]) "deck" y (nmOrder.zip [a0, a1, a2, a3, y]) := fun {a0 a1 a2 a3 y} => ⟨put_zip_new (vs := [a0, a1, a2, a3]) ndOrder rfl, len_zip (by decide)⟩
instance : ∀ {a0 a1 a2 a3 a4 a5 a6 : V}, Fd (nmOrder.zip [a0, a1, a2, a3, a4, a5, a6]) "is_gone" a5 := fun {a0 a1 a2 a3 a4 a5 a6} => ⟨look_zip ndOrder (i := 5) rfl rfl, len_zip (by decide)⟩
instance : ∀ {a0 a1 a2 a3 a4 a5 a6 y : V}, Fp (nmOrder.zip [a0, a1, a2, a3, a4, a5, a6]) "is_gone" y (nmOrder.zip [a0, a1, a2, a3, a4, y, a6]) := fun {a0 a1 a2 a3 a4 a5 a6 y} => ⟨put_zip ndOrder (i := 5) rfl (by show 5 < 7; decide), len_zip (by decide)⟩
instance : ∀ {a0 a1 a2 a3 a4 y : V}, Fp (nmOrder.zip [a0, a1, a2, a3, a4]) "is_gone" y (nmOrder.zip [a0, a1, a2, a3, a4, y]) := fun {a0 a1 a2 a3 a4 y} => ⟨put_zip_new (vs := [a0, a1, a2, a3, a4]) ndOrder rfl, len_zip (by decide)⟩
instance : ∀ {a0 a1 a2 a3 a4 a5 a6 : V}, Fd (nmOrder.zip [a0, a1, a2, a3, a4, a5, a6]) "behind" a6 := fun {a0 a1 a2 a3 a4 a5 a6} => ⟨look_zip ndOrder (i := 6) rfl rfl, len_zip (by decide)⟩
instance : ∀ {a0 a1 a2 a3 a4 a5 a6 y : V}, Fp (nmOrder.zip [a0, a1, a2, a3, a4, a5, a6]) "behind" y (nmOrder.zip [a0, a1, a2, a3, a4, a5, y]) := fun {a0 a1 a2 a3 a4 a5 a6 y} => ⟨put_zip ndOrder (i := 6) rfl (by show 6 < 7; decide), len_zip (by decide)⟩
instance : ∀ {a0 a1 a2 a3 a4 a5 y : V}, Fp (nmOrder.zip [a0, a1, a2, a3, a4, a5]) "behind" y (nmOrder.zip [a0, a1, a2, a3, a4, a5, y]) := fun {a0 a1 a2 a3 a4 a5 y} => ⟨put_zip_new (vs := [a0, a1, a2, a3, a4, a5]) ndOrder rfl, len_zip (by decide)⟩
instance : NotF nmOrder "set_again" := ⟨by decide +kernel⟩
instance : NotF nmOrder "set_mixed" := ⟨by decide +kernel⟩
instance : NotF nmOrder "put" := ⟨by decide +kernel⟩
instance : NotF nmOrder "remove" := ⟨by decide +kernel⟩
instance : NotF nmOrder "next_plain" := ⟨by decide +kernel⟩
instance : NotF nmOrder "next_mixed" := ⟨by decide +kernel⟩
instance : NotF nmOrder "after" := ⟨by decide +kernel⟩
instance : NotF nmOrder "skip" := ⟨by decide +kernel⟩
instance : NotF nmOrder "first" := ⟨by decide +kernel⟩
instance : NotF nmOrder "began" := ⟨by decide +kernel⟩
end TR

set_option Elab.async false
set_option linter.all false
set_option maxRecDepth 100000
set_option maxHeartbeats 4000000
/-! .. -/
set_option hygiene false
local macro_rules | `(tactic| walk_at "s1") => `(tactic| first
  | (with_reducible refine x_seq ?_)
  | (with_reducible refine x_asg ?_)
  | (with_reducible refine y_asg ?_)
  | (with_reducible refine x_name ?_)
  | (with_reducible refine x_ifS ?_)
  | (with_reducible refine y_ifS ?_)
  | (with_reducible refine x_ret ?_)
  | (with_reducible refine x_retN ?_)
  | (with_reducible refine x_drop ?_)
  | (with_reducible refine y_drop ?_)
  | (with_reducible refine x_next ?_)
  | (with_reducible refine x_cont ?_)
  | (with_reducible refine x_test ?_)
  | (with_reducible refine x_tB ?_)
  | (with_reducible refine y_test ?_)
  | (with_reducible refine x_not ?_)
  | (with_reducible refine y_not ?_)
  | (with_reducible refine x_and ?_)
  | (with_reducible refine y_and ?_)
  | (with_reducible refine x_or ?_)
  | (with_reducible refine y_or ?_)
  | (with_reducible refine x_chain ?_)
  | (with_reducible refine y_ch1 ?_)
  | (with_reducible refine y_ch2 ?_)
  | (with_reducible refine y_ch3 ?_)
  | (with_reducible refine x_andV ?_)
  | (with_reducible refine y_andV ?_)
  | (with_reducible refine x_orV ?_)
  | (with_reducible refine y_orV ?_)
  | (with_reducible refine x_notV ?_)
  | (with_reducible refine y_notV ?_)
  | (with_reducible refine x_if ?_)
  | (with_reducible refine y_ifE ?_)
  | (with_reducible refine x_op ?_)
  | (with_reducible refine y_op1 ?_)
  | (with_reducible refine y_op2 ?_)
  | (with_reducible refine x_un ?_)
  | (with_reducible refine y_neg ?_)
  | (with_reducible refine x_c ?_)
  | (with_reducible refine x_fld ?_)
  | (with_reducible refine x_sfld ?_)
  | (with_reducible refine y_sf ?_)
  | (with_reducible refine x_nil ?_)
  | (with_reducible refine x_cons ?_)
  | (with_reducible refine y_c1 ?_)
  | (with_reducible refine y_c2 ?_)
  | (with_reducible refine x_callS ?_)
  | (with_reducible refine y_sp ?_)
  | (with_reducible refine x_meth ?_)
  | (with_reducible refine y_mt2 ?_)
  | (with_reducible refine x_make ?_)
  | (with_reducible refine y_mq ?_)
  | (with_reducible refine x_cb ?_)
  | (with_reducible refine y_cb ?_)
  | (with_reducible refine x_bm ?_)
  | (with_reducible refine y_bq ?_)
  | (with_reducible refine x_bm0 ?_)
  | (with_reducible refine x_rz ?_)
  | (with_reducible refine x_lst ?_)
  | (with_reducible refine x_tup ?_)
  | (with_reducible refine x_sub ?_)
  | (with_reducible refine y_sb1 ?_)
  | (with_reducible refine x_for1 ?_)
  | (with_reducible refine x_forL ?_)
  | (with_reducible refine x_for3 ?_)
  | (with_reducible refine x_forT ?_)
  | (with_reducible refine y_body ?_)
  | (with_reducible refine x_tru ?_)
  | (with_reducible refine y_trub ?_)
  | (with_reducible refine y_trui ?_)
  | (with_reducible refine y_trun ?_)
  | (with_reducible refine x_gcons ?_)
  | (with_reducible refine y_g ?_)
  | (with_reducible refine x_gnil ?_)
  | (with_reducible refine x_rev ?_)
  | (with_reducible refine x_sl ?_)
  | (with_reducible refine y_sl1 ?_)
  | (with_reducible refine y_sl2 ?_)
  | (with_reducible refine y_sl3 ?_)
  | (with_reducible refine x_nop ?_)
  | (with_reducible refine x_part ?_)
  | (with_reducible refine y_part ?_)
  | (with_reducible refine x_lrange1 ?_)
  | (with_reducible refine x_lrange2 ?_)
  | (with_reducible refine y_lr2 ?_)
  | (with_reducible refine x_addI ?_)
  | (with_reducible refine x_dget ?_)
  | (with_reducible refine y_dg1 ?_)
  | (with_reducible refine x_din ?_)
  | (with_reducible refine y_di1 ?_)
  | (with_reducible refine x_dnotin ?_)
  | (with_reducible refine y_dn1 ?_)
  | (with_reducible refine x_dput ?_)
  | (with_reducible refine y_dp1 ?_)
  | (with_reducible refine y_dp2 ?_)
  | (with_reducible refine x_dnew hS (fun u H hS => ?_))
  | ((with_reducible refine x_try (fun pn xe tk po => ?_)); (try dsimp only [cxOf]))
  | (with_reducible refine x_lcT ?_)
  | (with_reducible refine x_lcL ?_)
  | (with_reducible refine y_tt ?_)
  | (with_reducible refine x_yes' ?_)
  | ((with_reducible refine' y_lcb ?h1 ?_); (case h1 => exact rfl))
  | (with_reducible refine x_I0 ?_)
  | (with_reducible refine x_eqI ?_)
  | (with_reducible refine x_neI ?_)
  | (with_reducible refine x_isN ?_)
  | (with_reducible refine x_notN ?_)
  | (with_reducible refine x_tt ?_)
  | (with_reducible refine x_ff ?_)
  | (with_reducible refine x_nt ?_)
  | (with_reducible refine x_nf ?_)
  | (with_reducible refine y_fld hS ?_)
  | (with_reducible refine y_meth hS ?_)
  | (with_reducible refine y_put hS (fun H hS => ?_))
  | ((with_reducible refine' x_var ?h1 ?_); (case h1 => exact rfl))
  | (with_reducible refine y_lst hS (by first | decide | (show _ ≤ sizeLine; simp only [List.length_cons, List.length_nil]; decide)) (fun u H hS => ?_))
  | (with_reducible refine y_tup hS (by first | decide | (show _ ≤ sizeLine; simp only [List.length_cons, List.length_nil]; decide)) (fun u H hS => ?_)))
local macro_rules | `(tactic| walk_at "s") => `(tactic| repeat walk_at "s1")
local macro_rules | `(tactic| walk_at "go") => `(tactic| (dsimp only [cxOf]; repeat walk_at "s1"))

namespace TR
open PySem PySem.Spec PyProof.Rows L2
section
variable {P : Program} {w : World} {K : PySem.W.Frag} {mg : Str → Option Value} {base : Heap}
/-! ### the law's draws -/
/-- the script -/
def ScrA (K : PySem.W.Frag) (a : Addr) (ns : List Int) : As := fun h => SqL K h a (ns.map V.int)
instance {K : PySem.W.Frag} {a : Addr} {ns : List Int} : Kys (ScrA K a ns) a := ⟨trivial⟩
theorem Sep.scr {a : Addr} {ns : List Int} {L R : List As} {H : Hp} (h : Sep L H) [q : AtA a L (ScrA K a ns) R] : SqL K H a (ns.map V.int) := by
  obtain ⟨h1, h2, s1, s2, d, x, r⟩ := q.en H h
  exact SqL.sb s1 x
/-- how many draws -/
def TownA (t : Addr) (n : Nat) : As := pt t (.lst (List.replicate n (V.int 0)))
instance {t : Addr} {n : Nat} : Kys (TownA t n) t := ⟨trivial⟩
def lcell (ns : List Int) (k : Nat) : Int := if ns = [] then 0 else ns.getD (k % ns.length) 0
def lmix (ns : List Int) (k : Nat) : Int :=
  let a := (lcell ns k + 104729 * ((k : Int) + 1)) % 4294967291
  let b := a ^ 5 % 4294967279
  (b / 64 * 69621 + b) % 4294967231
def draw (ns : List Int) (n : Nat) (m : Int) : Int := lmix ns n / 8 % m
theorem draw_ok (ns : List Int) (n : Nat) {m : Int} (h : 0 < m) : 0 ≤ draw ns n m ∧ draw ns n m < m := ⟨Int.emod_nonneg _ (by omega), Int.emod_lt_of_pos _ h⟩
def sp_l_cell (K : PySem.W.Frag) : Sp := fun vs H Q E => ∃ (a : Addr) (ns : List Int) (k : Nat) (R : List As), vs = [.ref a, .int (k : Nat)] ∧ Sep (ScrA K a ns :: R) H ∧ Q (.int (lcell ns k)) H
theorem ln_l_cell : ∀ vs H Q E, sp_l_cell K vs H Q E → vs.length = (["_law_script", "_law_k"] : List Str).length := by
  rintro _ _ _ _ ⟨a, ns, k, R, rfl, _⟩
  rfl
theorem sc_l_cell : FnScope ["_law_script", "_law_k"] ["_law_script", "_law_k"] (defScope s_l_cell) := ⟨rfl, rfl, rfl, by decide +kernel, rfl, by decide +kernel, by decide +kernel⟩
theorem ok_l_cell (T : Top K mg) : OkD P w K mg base d_l_cell 1 ["_law_script", "_law_k"] (sp_l_cell K) := by
  refine okD (df_l_cell T) sc_l_cell (fun _ _ _ _ _ _ us hl => match us, hl with | [_, _], _ => rfl) ln_l_cell (fun cdv A outer s H vs Q E hr h => ⟨_,
      pss_cons (ps_if (px_truth (pv 0) (by intro _; rfl))
       (pss_one (ps_ret (pe_ix ix_seq (pv 0) (pe_op op_mod (pv 1) (pe_callB call_lenA (by rfl) (fr_len T) (by decide +kernel) (pa_cons (pv 0) pa_nil))) (fun _ _ => rfl))))
       (pss_nil))
      (pss_one (ps_ret pe_int)), ?_⟩)
  obtain ⟨a, ns, k, R, rfl, hS, h1⟩ := h
  have hL : SqL K H a (ns.map V.int) := hS.scr
  walk_at "go"
  refine y_trul hL ?_
  walk_at "s"
  cases ns with
  | nil =>
    walk_at "s"
    exact h1
  | cons z r =>
    walk_at "s"
    refine x_yes rfl ?_
    walk_at "s"
    refine x_lenL hL ?_
    walk_at "s"
    have hp : (0 : Int) < (((z :: r).map V.int).length : Nat) := by
      rw [List.length_map, List.length_cons]
      omega
    refine x_I hp ?_
    have e : (k : Int) % ((((z :: r).map V.int).length : Nat) : Int) = ((k % (z :: r).length : Nat) : Int) := by
      rw [List.length_map] <;> rfl
    rw [e]
    have hlt : k % (z :: r).length < (z :: r).length := Nat.mod_lt _ (by rw [List.length_cons]; omega)
    refine x_ixL hL (atI_nat (v := V.int ((z :: r).getD (k % (z :: r).length) 0)) (by rw [List.getElem?_map, getD_some (d := 0) hlt] <;> rfl)) ?_
    walk_at "s"
    have e2 : lcell (z :: r) k = (z :: r).getD (k % (z :: r).length) 0 := by
      unfold lcell
      rw [if_neg (by intro q; cases q)]
    rw [e2] at h1
    exact h1
def sp_l_mix (K : PySem.W.Frag) : Sp := fun vs H Q E => ∃ (a : Addr) (ns : List Int) (k : Nat) (R : List As), vs = [.ref a, .int (k : Nat)] ∧ Sep (ScrA K a ns :: R) H ∧ Q (.int (lmix ns k)) H
theorem ln_l_mix : ∀ vs H Q E, sp_l_mix K vs H Q E → vs.length = (["_law_script", "_law_k"] : List Str).length := by
  rintro _ _ _ _ ⟨a, ns, k, R, rfl, _⟩
  rfl
theorem sc_l_mix : FnScope ["_law_script", "_law_k", "_law_number"] ["_law_script", "_law_k"] (defScope s_l_mix) := ⟨rfl, rfl, rfl, by decide +kernel, rfl, by decide +kernel, by decide +kernel⟩
theorem ok_l_mix (T : Top K mg) : OkD P w K mg base d_l_mix 2 ["_law_script", "_law_k"] (sp_l_mix K) := by
  refine okD (df_l_mix T) sc_l_mix (fun _ _ _ _ _ _ us hl => match us, hl with | [_, _], _ => rfl) ln_l_mix (fun cdv A outer s H vs Q E hr h => ⟨_,
      pss_cons (ps_set (i := 2) sc_l_mix.nd rfl (Or.inl rfl) (pe_op op_mod (pe_op op_addA (px_call (ok_l_cell T) (hr.mono (by decide)) rfl (gl__law_cell T) (fun σ => paD σ) (pa_cons (pv 0) (pa_cons (pv 1) pa_nil))) (pe_op op_mulA pe_int (pe_op op_addA (pv 1) pe_int))) pe_int))
      (pss_cons (ps_set (i := 2) sc_l_mix.nd rfl (Or.inl rfl) (pe_op op_mod (pe_op op_pow (pv 2) pe_int) pe_int))
      (pss_one (ps_ret (pe_op op_mod (pe_op op_addA (pe_op op_mulA (pe_op op_fdiv (pv 2) pe_int) pe_int) (pv 2)) pe_int)))), ?_⟩)
  obtain ⟨a, ns, k, R, rfl, hS, h1⟩ := h
  walk_at "go"
  refine ⟨a, ns, k, R, rfl, hS, ?_⟩
  walk_at "s"
  refine x_mulI (.inl ⟨by decide, by decide⟩) ?_
  walk_at "s"
  refine x_I (by decide) ?_
  walk_at "s"
  have b1 := Int.emod_nonneg (lcell ns k + 104729 * ((k : Int) + 1)) (b := 4294967291) (by decide)
  have b2 := Int.emod_lt_of_pos (lcell ns k + 104729 * ((k : Int) + 1)) (b := 4294967291) (by decide)
  refine x_I ⟨by decide, by decide, by omega⟩ ?_
  walk_at "s"
  refine x_I (by decide) ?_
  walk_at "s"
  refine x_I ⟨by decide, by decide⟩ ?_
  walk_at "s"
  refine x_mulI (.inr ⟨by decide, by decide⟩) ?_
  walk_at "s"
  refine x_I (by decide) ?_
  walk_at "s"
  exact h1
theorem sz {n : Nat} (h : n ≤ 1000000) : n < sizeLine := Nat.lt_of_le_of_lt h (by decide)
theorem sz' {n : Nat} (h : n ≤ 1000000) : n ≤ sizeLine := Nat.le_of_lt (sz h)
def sp_l_draw (K : PySem.W.Frag) : Sp := fun vs H Q E => ∃ (a t : Addr) (ns : List Int) (n : Nat) (m : Int) (R : List As), vs = [.ref a, .ref t, .int m] ∧ 0 < m ∧ n ≤ 1000000 ∧ Sep (ScrA K a ns :: TownA t n :: R) H ∧
  ∀ H', Sep (ScrA K a ns :: TownA t (n + 1) :: R) H' → Q (.int (draw ns (n + 1) m)) H'
theorem ln_l_draw : ∀ vs H Q E, sp_l_draw K vs H Q E → vs.length = (["_law_script", "_law_town", "_law_many"] : List Str).length := by
  rintro _ _ _ _ ⟨a, t, ns, n, m, R, rfl, _⟩
  rfl
theorem sc_l_draw : FnScope ["_law_script", "_law_town", "_law_many"] ["_law_script", "_law_town", "_law_many"] (defScope s_l_draw) := ⟨rfl, rfl, rfl, by decide +kernel, rfl, by decide +kernel, by decide +kernel⟩
theorem ok_l_draw (T : Top K mg) : OkD P w K mg base d_l_draw 3 ["_law_script", "_law_town", "_law_many"] (sp_l_draw K) := by
  refine okD (df_l_draw T) sc_l_draw (fun _ _ _ _ _ _ us hl => match us, hl with | [_, _, _], _ => rfl) ln_l_draw (fun cdv A outer s H vs Q E hr h => ⟨_,
      pss_cons (ps_expr (pe_bm PySem.F.plainAttrs_list PySem.F.slot_list_append PySem.F.type_list_append mt_append (pv 1) (pa_cons pe_int pa_nil)))
      (pss_one (ps_ret (pe_op op_mod (pe_op op_fdiv (px_call (ok_l_mix T) (hr.mono (by decide)) rfl (gl__law_mix T) (fun σ => paD σ) (pa_cons (pv 0) (pa_cons (pe_callB call_lenA (by rfl) (fr_len T) (by decide +kernel) (pa_cons (pv 1) pa_nil)) pa_nil))) pe_int) (pv 2)))), ?_⟩)
  obtain ⟨a, t, ns, n, m, R, rfl, hm, hn, hS, h1⟩ := h
  replace hS : Sep (ScrA K a ns :: pt t (.lst (List.replicate n (V.int 0))) :: R) H := hS
  walk_at "go"
  refine y_bml (sqL hS) ?_
  walk_at "s"
  refine x_append hS (by rw [List.length_replicate]; exact sz hn) (fun H hS => ?_)
  have e : List.replicate n (V.int 0) ++ [V.int 0] = List.replicate (n + 1) (V.int 0) := List.replicate_succ'.symm
  rw [e] at hS
  walk_at "s"
  refine x_lenL (sqL hS) ?_
  walk_at "s"
  rw [List.length_replicate]
  refine ⟨a, ns, n + 1, _, rfl, hS.own a, ?_⟩
  walk_at "s"
  refine x_I ⟨by decide, by decide⟩ ?_
  walk_at "s"
  refine x_I hm ?_
  exact h1 _ (hS.of En.swap)
def sp_l_pick (K : PySem.W.Frag) : Sp := fun vs H Q E => ∃ (a t q : Addr) (ns : List Int) (n : Nat) (xs : List V) (R : List As), vs = [.ref a, .ref t, .ref q] ∧ xs ≠ [] ∧ n ≤ 1000000 ∧ Sep (ScrA K a ns :: TownA t n :: pt q (.lst xs) :: R) H ∧
  ∀ H', Sep (ScrA K a ns :: TownA t (n + 1) :: pt q (.lst xs) :: R) H' → Q (xs.getD (draw ns (n + 1) (xs.length : Nat)).toNat .non) H'
theorem ln_l_pick : ∀ vs H Q E, sp_l_pick K vs H Q E → vs.length = (["_law_script", "_law_town", "_law_some"] : List Str).length := by
  rintro _ _ _ _ ⟨a, t, q, ns, n, xs, R, rfl, _⟩
  rfl
theorem sc_l_pick : FnScope ["_law_script", "_law_town", "_law_some"] ["_law_script", "_law_town", "_law_some"] (defScope s_l_pick) := ⟨rfl, rfl, rfl, by decide +kernel, rfl, by decide +kernel, by decide +kernel⟩
theorem ok_l_pick (T : Top K mg) : OkD P w K mg base d_l_pick 4 ["_law_script", "_law_town", "_law_some"] (sp_l_pick K) := by
  refine okD (df_l_pick T) sc_l_pick (fun _ _ _ _ _ _ us hl => match us, hl with | [_, _, _], _ => rfl) ln_l_pick (fun cdv A outer s H vs Q E hr h => ⟨_,
      pss_one (ps_ret (pe_ix ix_seq (pv 2) (px_call (ok_l_draw T) (hr.mono (by decide)) rfl (gl__law_draw T) (fun σ => paD σ) (pa_cons (pv 0) (pa_cons (pv 1) (pa_cons (pe_callB call_lenA (by rfl) (fr_len T) (by decide +kernel) (pa_cons (pv 2) pa_nil)) pa_nil)))) (fun _ _ => rfl))), ?_⟩)
  obtain ⟨a, t, q, ns, n, xs, R, rfl, hx, hn, hS, h1⟩ := h
  have hl : 0 < xs.length := List.length_pos_iff.mpr hx
  walk_at "go"
  refine x_lenL (sqL hS) ?_
  walk_at "s"
  refine ⟨a, t, ns, n, _, _, rfl, by omega, hn, hS.own2 a t, fun H hS => ?_⟩
  walk_at "s"
  have d := draw_ok ns (n + 1) (m := (xs.length : Nat)) (by omega)
  refine x_ixL (sqL hS) (atI_some d.1 (getD_some (d := .non) (by omega))) ?_
  exact h1 _ hS
/-! ### a draw, a pick, by what is known of it -/
section
variable {a t q : Addr} {ns : List Int} {n : Nat} {m : Int} {xs : List V} {R : List As} {H : Hp} {Q : VK} {E : XK}
theorem draw_use (hm : 0 < m) (hn : n ≤ 1000000) (hS : Sep (ScrA K a ns :: TownA t n :: R) H) (k : ∀ (j : Nat) H', (j : Int) < m → Sep (ScrA K a ns :: TownA t (n + 1) :: R) H' → Q (.int (j : Nat)) H') : sp_l_draw K [.ref a, .ref t, .int m] H Q E := by
  refine ⟨a, t, ns, n, m, R, rfl, hm, hn, hS, fun H' hS' => ?_⟩
  have d := draw_ok ns (n + 1) hm
  have e : draw ns (n + 1) m = ((draw ns (n + 1) m).toNat : Nat) := by omega
  rw [e]
  exact k _ H' (by omega) hS'
theorem pick_use (hx : xs ≠ []) (hn : n ≤ 1000000) (hS : Sep (ScrA K a ns :: TownA t n :: pt q (.lst xs) :: R) H) (k : ∀ v H', v ∈ xs → Sep (ScrA K a ns :: TownA t (n + 1) :: pt q (.lst xs) :: R) H' → Q v H') : sp_l_pick K [.ref a, .ref t, .ref q] H Q E := by
  refine ⟨a, t, q, ns, n, xs, R, rfl, hx, hn, hS, fun H' hS' => k _ H' ?_ hS'⟩
  have hl : 0 < xs.length := List.length_pos_iff.mpr hx
  have d := draw_ok ns (n + 1) (m := (xs.length : Nat)) (by omega)
  rw [List.getD_eq_getElem?_getD, List.getElem?_eq_getElem (by omega)]
  exact List.getElem_mem _
end

theorem scr_sep {a : Addr} {ns : List Int} {H : Hp} (h : SqL K H a (ns.map V.int)) : Sep [ScrA K a ns] H := ⟨H, fun _ => none, Sb.refl H, empty_sb H, fun _ _ _ _ e => (nomatch e), h, trivial⟩
/-! ### refusals -/
inductive Kd where
  | tune | number | entry | word
  deriving DecidableEq
def Kd.cls : Kd → Str
  | .tune => "BadTune" | .number => "BadNumber" | .entry => "BadEntry" | .word => "BadWord"
def Kd.txt : Kd → Str
  | .tune => "tune" | .number => "number" | .entry => "entry" | .word => "word"
def Kd.ix : Kd → Nat
  | .tune => 0 | .number => 1 | .entry => 2 | .word => 3
/-- the tuple ("refused", k) -/
abbrev RefR (p : Addr) (k : Kd) : As := pt p (.tup [.str "refused", .str k.txt])
theorem xb_kd (T : Top K mg) (k : Kd) : ExcC K (He.ga K k.cls) := match k with
  | .tune => xb_BadTune T | .number => xb_BadNumber T | .entry => xb_BadEntry T | .word => xb_BadWord T
theorem kiT (T : Top K mg) (k : Kd) : PySem.W.kitOne K (.ref (He.ga K k.cls)) (.ref (He.ga K "BadTune")) = some (decide (k = .tune)) := match k with
  | .tune => ki_BadTune_BadTune T | .number => ki_BadNumber_BadTune T | .entry => ki_BadEntry_BadTune T | .word => ki_BadWord_BadTune T
theorem kiN (T : Top K mg) (k : Kd) : PySem.W.kitOne K (.ref (He.ga K k.cls)) (.ref (He.ga K "BadNumber")) = some (decide (k = .number)) := match k with
  | .tune => ki_BadTune_BadNumber T | .number => ki_BadNumber_BadNumber T | .entry => ki_BadEntry_BadNumber T | .word => ki_BadWord_BadNumber T
theorem kiE (T : Top K mg) (k : Kd) : PySem.W.kitOne K (.ref (He.ga K k.cls)) (.ref (He.ga K "BadEntry")) = some (decide (k = .entry)) := match k with
  | .tune => ki_BadTune_BadEntry T | .number => ki_BadNumber_BadEntry T | .entry => ki_BadEntry_BadEntry T | .word => ki_BadWord_BadEntry T
theorem kiW (T : Top K mg) (k : Kd) : PySem.W.kitOne K (.ref (He.ga K k.cls)) (.ref (He.ga K "BadWord")) = some (decide (k = .word)) := match k with
  | .tune => ki_BadTune_BadWord T | .number => ki_BadNumber_BadWord T | .entry => ki_BadEntry_BadWord T | .word => ki_BadWord_BadWord T
theorem kiV (T : Top K mg) (k : Kd) : PySem.W.kitOne K (.ref (He.ga K k.cls)) (.type "ValueError") = some true := match k with
  | .tune => ki_BadTune_ValueError T | .number => ki_BadNumber_ValueError T | .entry => ki_BadEntry_ValueError T | .word => ki_BadWord_ValueError T
def Kd.bl (k : Kd) : List Bool := [decide (k = .tune), decide (k = .number), decide (k = .entry), decide (k = .word)]
theorem bl_count (k : Kd) : k.bl.count true = 1 := by cases k <;> rfl
theorem bl_at (k : Kd) : (k.bl.map V.bl)[k.ix]? = some (.bl true) := by cases k <;> rfl
theorem bl_ahead (k : Kd) : ∀ (m : Nat) (z' : V), m < k.ix → (k.bl.map V.bl)[m]? = some z' → eqV z' (.bl true) = false := by
  intro m z' h1 h2
  cases k with
  | tune => exact absurd h1 (Nat.not_lt_zero _)
  | number =>
    have e : m = 0 := by
      have : m < 1 := h1
      omega
    subst e
    cases h2
    rfl
  | entry =>
    have e : m = 0 ∨ m = 1 := by
      have : m < 2 := h1
      omega
    rcases e with rfl | rfl <;> (cases h2; rfl)
  | word =>
    have e : m = 0 ∨ m = 1 ∨ m = 2 := by
      have : m < 3 := h1
      omega
    rcases e with rfl | rfl | rfl <;> (cases h2; rfl)
theorem bl_flat (k : Kd) : (k.bl.map V.bl).all flatV = true := by cases k <;> rfl
theorem kd_word (k : Kd) : ([.str "tune", .str "number", .str "entry", .str "word"] : List V)[k.ix]? = some (.str k.txt) := by cases k <;> rfl
def sp_l_refusal (K : PySem.W.Frag) : Sp := fun vs H Q E => ∃ (p : Addr) (k : Kd) (R : List As), vs = [.ref p] ∧ Sep (pt p (ExA (.ref (He.ga K k.cls)) p) :: R) H ∧ ∀ u H', Sep (RefR u k :: R) H' → Q (.ref u) H'
theorem ln_l_refusal : ∀ vs H Q E, sp_l_refusal K vs H Q E → vs.length = (["_law_held"] : List Str).length := by
  rintro _ _ _ _ ⟨p, k, R, rfl, _⟩
  rfl
theorem sc_l_refusal : FnScope ["_law_held", "_law_kinds"] ["_law_held"] (defScope s_l_refusal) := ⟨rfl, rfl, rfl, by decide +kernel, rfl, by decide +kernel, by decide +kernel⟩
theorem ok_l_refusal (T : Top K mg) : OkD P w K mg base d_l_refusal 1 ["_law_held"] (sp_l_refusal K) := by
  refine okD (df_l_refusal T) sc_l_refusal (fun _ _ _ _ _ _ us hl => match us, hl with | [_], _ => rfl) ln_l_refusal (fun cdv A outer s H vs Q E hr h => ⟨_,
      pss_cons (ps_if (pt_cmpR op_isN1 (pv 0) pe_non (nomark _))
       (pss_one (ps_ret (pe_tup (pa_cons pe_str pa_nil))))
       (pss_nil))
      (pss_cons (ps_set (i := 1) sc_l_refusal.nd rfl (Or.inl rfl) (pe_lst (pa_cons (pe_callB call_isX (by rfl) (fr_isinstance T) (by decide +kernel) (pa_cons (pv 0) (pa_cons (px_ref rfl (gl_BadTune T)) pa_nil))) (pa_cons (pe_callB call_isX (by rfl) (fr_isinstance T) (by decide +kernel) (pa_cons (pv 0) (pa_cons (px_ref rfl (gl_BadNumber T)) pa_nil))) (pa_cons (pe_callB call_isX (by rfl) (fr_isinstance T) (by decide +kernel) (pa_cons (pv 0) (pa_cons (px_ref rfl (gl_BadEntry T)) pa_nil))) pa_nil)))))
      (pss_cons (ps_expr (pe_bm PySem.F.plainAttrs_list PySem.F.slot_list_append PySem.F.type_list_append mt_append (pv 1) (pa_cons (pe_callB call_isX (by rfl) (fr_isinstance T) (by decide +kernel) (pa_cons (pv 0) (pa_cons (px_ref rfl (gl_BadWord T)) pa_nil))) pa_nil)))
      (pss_cons (ps_if (PW.pt (pw_or (pt_cmpR (op_neA hr.units) (pe_bm PySem.F.plainAttrs_list PySem.F.slot_list_count PySem.F.type_list_count mt_countB (pv 1) (pa_cons pe_bl pa_nil)) pe_int (nomark _)) (pw_or1 (pt_not (px_truth (pe_callB call_isX (by rfl) (fr_isinstance T) (by decide +kernel) (pa_cons (pv 0) (pa_cons (pe_bltn (v := .ty "ValueError") (u := .type "ValueError") rfl (fr_ValueError T) (by decide +kernel) rfl) pa_nil))) (by intro _; rfl))))))
       (pss_one (ps_ret (pe_tup (pa_cons pe_str pa_nil))))
       (pss_nil))
      (pss_one (ps_ret (pe_tup (pa_cons pe_str (pa_cons (pe_ix ix_seq (pe_lst (pa_cons pe_str (pa_cons pe_str (pa_cons pe_str (pa_cons pe_str pa_nil))))) (pe_bm PySem.F.plainAttrs_list PySem.F.slot_list_index PySem.F.type_list_index mt_index (pv 1) (pa_cons pe_bl pa_nil)) (fun _ _ => rfl)) pa_nil)))))))), ?_⟩)
  obtain ⟨p, k, R, rfl, hS, h1⟩ := h
  walk_at "go"
  refine x_no rfl ?_
  walk_at "s"
  refine x_isX hS (xb_kd T k) (kiT T k) ?_
  walk_at "s"
  refine x_isX hS (xb_kd T k) (kiN T k) ?_
  walk_at "s"
  refine x_isX hS (xb_kd T k) (kiE T k) ?_
  walk_at "s"
  refine y_bml (sqL hS) ?_
  walk_at "s"
  refine x_isX hS (xb_kd T k) (kiW T k) ?_
  walk_at "s"
  refine x_append hS (by show 3 < sizeLine; decide) (fun H hS => ?_)
  walk_at "s"
  replace hS : Sep (pt u (.lst (k.bl.map V.bl)) :: pt p (ExA (.ref (He.ga K k.cls)) p) :: R) H := hS
  refine y_bml (sqL hS) ?_
  walk_at "s"
  refine x_cntB (bs := k.bl) (sqL hS) ?_
  walk_at "s"
  rw [bl_count]
  refine x_ndec (fun h => absurd rfl h) (fun _ => ?_)
  walk_at "s"
  refine x_isXT hS (xb_kd T k) (kiV T k) ?_
  walk_at "s"
  refine y_bml (sqL hS) ?_
  walk_at "s"
  refine x_index (j := k.ix) (z := .bl true) (sqL hS) rfl (bl_flat k) (bl_at k) rfl (bl_ahead k) ?_
  walk_at "s"
  refine x_ixL (sqL hS) (atI_nat (kd_word k)) ?_
  walk_at "s"
  exact h1 _ _ (hS.of (En.cons (En.drop (En.drop (En.drop En.refl)))))
abbrev refD (k : Kd) : PyData := .tuple [.str "refused", .str k.txt]
theorem refD_dp {p : Addr} {k : Kd} {L R : List As} {H : Hp} (h : Sep L H) [q : At p L (.tup [.str "refused", .str k.txt]) R] : Dp K H (.ref p) (refD k) := .tup (SqT.of h.at_) (.cons (.str _) (.cons (.str _) .nil))
theorem refD_sh (k : Kd) : SeqAt.shaped (refD k) = true := by cases k <;> decide +kernel
/-! ### the law's promise -/
def sp_law (K : PySem.W.Frag) : Sp := fun vs H Q E => ∃ (a : Addr) (ns : List Int), vs = [.ref a] ∧ Sep [ScrA K a ns] H ∧ ∀ H', Q (.bl true) H'
theorem ln_law : ∀ vs H Q E, sp_law K vs H Q E → vs.length = (["_law_script"] : List Str).length := by
  rintro _ _ _ _ ⟨a, ns, rfl, _⟩
  rfl
theorem law_start {a : Addr} {ns : List Int} {H : Hp} (hl : ns.length ≤ 63) (h : SqL K H a (ns.map V.int)) : sp_law K [.ref a] H (fun v _ => v = .bl true) (fun _ _ _ => False) := ⟨a, ns, rfl, scr_sep h, fun _ => rfl⟩

end
end TR

set_option Elab.async false
set_option linter.all false
set_option maxRecDepth 100000
set_option maxHeartbeats 4000000
/-! .. -/
set_option hygiene false
local macro_rules | `(tactic| walk_at "s1") => `(tactic| first
  | (with_reducible refine x_seq ?_)
  | (with_reducible refine x_asg ?_)
  | (with_reducible refine y_asg ?_)
  | (with_reducible refine x_name ?_)
  | (with_reducible refine x_ifS ?_)
  | (with_reducible refine y_ifS ?_)
  | (with_reducible refine x_ret ?_)
  | (with_reducible refine x_retN ?_)
  | (with_reducible refine x_drop ?_)
  | (with_reducible refine y_drop ?_)
  | (with_reducible refine x_next ?_)
  | (with_reducible refine x_cont ?_)
  | (with_reducible refine x_test ?_)
  | (with_reducible refine x_tB ?_)
  | (with_reducible refine y_test ?_)
  | (with_reducible refine x_not ?_)
  | (with_reducible refine y_not ?_)
  | (with_reducible refine x_and ?_)
  | (with_reducible refine y_and ?_)
  | (with_reducible refine x_or ?_)
  | (with_reducible refine y_or ?_)
  | (with_reducible refine x_chain ?_)
  | (with_reducible refine y_ch1 ?_)
  | (with_reducible refine y_ch2 ?_)
  | (with_reducible refine y_ch3 ?_)
  | (with_reducible refine x_andV ?_)
  | (with_reducible refine y_andV ?_)
  | (with_reducible refine x_orV ?_)
  | (with_reducible refine y_orV ?_)
  | (with_reducible refine x_notV ?_)
  | (with_reducible refine y_notV ?_)
  | (with_reducible refine x_if ?_)
  | (with_reducible refine y_ifE ?_)
  | (with_reducible refine x_op ?_)
  | (with_reducible refine y_op1 ?_)
  | (with_reducible refine y_op2 ?_)
  | (with_reducible refine x_un ?_)
  | (with_reducible refine y_neg ?_)
  | (with_reducible refine x_c ?_)
  | (with_reducible refine x_fld ?_)
  | (with_reducible refine x_sfld ?_)
  | (with_reducible refine y_sf ?_)
  | (with_reducible refine x_nil ?_)
  | (with_reducible refine x_cons ?_)
  | (with_reducible refine y_c1 ?_)
  | (with_reducible refine y_c2 ?_)
  | (with_reducible refine x_callS ?_)
  | (with_reducible refine y_sp ?_)
  | (with_reducible refine x_meth ?_)
  | (with_reducible refine y_mt2 ?_)
  | (with_reducible refine x_make ?_)
  | (with_reducible refine y_mq ?_)
  | (with_reducible refine x_cb ?_)
  | (with_reducible refine y_cb ?_)
  | (with_reducible refine x_bm ?_)
  | (with_reducible refine y_bq ?_)
  | (with_reducible refine x_bm0 ?_)
  | (with_reducible refine x_rz ?_)
  | (with_reducible refine x_lst ?_)
  | (with_reducible refine x_tup ?_)
  | (with_reducible refine x_sub ?_)
  | (with_reducible refine y_sb1 ?_)
  | (with_reducible refine x_for1 ?_)
  | (with_reducible refine x_forL ?_)
  | (with_reducible refine x_for3 ?_)
  | (with_reducible refine x_forT ?_)
  | (with_reducible refine y_body ?_)
  | (with_reducible refine x_tru ?_)
  | (with_reducible refine y_trub ?_)
  | (with_reducible refine y_trui ?_)
  | (with_reducible refine y_trun ?_)
  | (with_reducible refine x_gcons ?_)
  | (with_reducible refine y_g ?_)
  | (with_reducible refine x_gnil ?_)
  | (with_reducible refine x_rev ?_)
  | (with_reducible refine x_sl ?_)
  | (with_reducible refine y_sl1 ?_)
  | (with_reducible refine y_sl2 ?_)
  | (with_reducible refine y_sl3 ?_)
  | (with_reducible refine x_nop ?_)
  | (with_reducible refine x_part ?_)
  | (with_reducible refine y_part ?_)
  | (with_reducible refine x_lrange1 ?_)
  | (with_reducible refine x_lrange2 ?_)
  | (with_reducible refine y_lr2 ?_)
  | (with_reducible refine x_addI ?_)
  | (with_reducible refine x_dget ?_)
  | (with_reducible refine y_dg1 ?_)
  | (with_reducible refine x_din ?_)
  | (with_reducible refine y_di1 ?_)
  | (with_reducible refine x_dnotin ?_)
  | (with_reducible refine y_dn1 ?_)
  | (with_reducible refine x_dput ?_)
  | (with_reducible refine y_dp1 ?_)
  | (with_reducible refine y_dp2 ?_)
  | (with_reducible refine x_dnew hS (fun u H hS => ?_))
  | ((with_reducible refine x_try (fun pn xe tk po => ?_)); (try dsimp only [cxOf]))
  | (with_reducible refine x_lcT ?_)
  | (with_reducible refine x_lcL ?_)
  | (with_reducible refine y_tt ?_)
  | (with_reducible refine x_yes' ?_)
  | ((with_reducible refine' y_lcb ?h1 ?_); (case h1 => exact rfl))
  | (with_reducible refine x_I0 ?_)
  | (with_reducible refine x_eqI ?_)
  | (with_reducible refine x_neI ?_)
  | (with_reducible refine x_isN ?_)
  | (with_reducible refine x_notN ?_)
  | (with_reducible refine x_tt ?_)
  | (with_reducible refine x_ff ?_)
  | (with_reducible refine x_nt ?_)
  | (with_reducible refine x_nf ?_)
  | (with_reducible refine y_fld hS ?_)
  | (with_reducible refine y_meth hS ?_)
  | (with_reducible refine y_put hS (fun H hS => ?_))
  | ((with_reducible refine' x_var ?h1 ?_); (case h1 => exact rfl))
  | (with_reducible refine y_lst hS (by first | decide | (show _ ≤ sizeLine; simp only [List.length_cons, List.length_nil]; decide)) (fun u H hS => ?_))
  | (with_reducible refine y_tup hS (by first | decide | (show _ ≤ sizeLine; simp only [List.length_cons, List.length_nil]; decide)) (fun u H hS => ?_)))
local macro_rules | `(tactic| walk_at "s") => `(tactic| repeat walk_at "s1")
local macro_rules | `(tactic| walk_at "go") => `(tactic| (dsimp only [cxOf]; repeat walk_at "s1"))

namespace TR
open PySem PySem.Spec PyProof.Rows L2
section
variable {P : Program} {w : World} {K : PySem.W.Frag} {mg : Str → Option Value} {base : Heap}
/-! ### dice -/
def DiceR (K : PySem.W.Frag) (p : Addr) (n : Int) : As := ex fun dx => pt p (.ins (He.ga K "Dice") dx (nmDice.zip [.int n]))
instance {K : PySem.W.Frag} {p : Addr} {n : Int} : Kys (DiceR K p n) p := ⟨trivial⟩
instance {K : PySem.W.Frag} {p : Addr} {n : Int} : IsOb (DiceR K p n) p (He.ga K "Dice") nmDice := ⟨fun h ⟨dx, a⟩ => ⟨dx, _, a⟩⟩
def okSeed (s : Int) : Prop := 0 ≤ s ∧ s < 6075
def dnext (n : Int) : Int := (106 * n + 1283) % 6075
theorem dnext_ok (n : Int) : okSeed (dnext n) := ⟨Int.emod_nonneg _ (by decide), Int.emod_lt_of_pos _ (by decide)⟩
def sp_Dice_init (K : PySem.W.Frag) : Sp := fun vs H Q E => ∃ (p dx : Addr) (s : Int) (R : List As), vs = [.ref p, .int s] ∧ Sep (pt p (.ins (He.ga K "Dice") dx []) :: R) H ∧
  (okSeed s → ∀ H', Sep (DiceR K p s :: R) H' → Q .non H') ∧ (¬ okSeed s → ∀ H', Sep R H' → E (.ref (He.ga K "BadNumber")) none H')
theorem ln_Dice_init : ∀ vs H Q E, sp_Dice_init K vs H Q E → vs.length = (["self", "seed"] : List Str).length := by
  rintro _ _ _ _ ⟨p, dx, s, R, rfl, _⟩
  rfl
theorem sc_Dice_init : FnScope ["self", "seed"] ["self", "seed"] (defScope s_Dice_init) := ⟨rfl, rfl, rfl, by decide +kernel, rfl, by decide +kernel, by decide +kernel⟩
theorem ok_Dice_init (T : Top K mg) : OkD P w K mg base d_Dice_init 1 ["self", "seed"] (sp_Dice_init K) := by
  refine okD (df_Dice_init T) sc_Dice_init (fun _ _ _ _ _ _ us hl => match us, hl with | [_, _], _ => rfl) ln_Dice_init (fun cdv A outer s H vs Q E hr h => ⟨_,
      pss_cons (ps_if (pt_not (pt_chain op_le op_lt pe_int (pv 1) (px_int rfl (gi_WHEEL T))))
       (pss_one (px_raise rfl tkD rfl (gl_BadNumber T) (xc_BadNumber T)))
       (pss_nil))
      (pss_one (ps_fld (pv 0) (pv 1) rfl)), ?_⟩)
  obtain ⟨p, dx, s, R, rfl, hS, h1, h2⟩ := h
  walk_at "go"
  refine x_dec (fun ha => ?_) (fun ha => ?_)
  · walk_at "s"
    refine x_ndec (fun hb => ?_) (fun hb => ?_)
    · walk_at "s"
      exact h2 (fun z => hb z.2) _ hS.tail
    · walk_at "s"
      exact h1 ⟨ha, hb⟩ _ (hS.exi dx)
  · walk_at "s"
    exact h2 (fun z => ha z.1) _ hS.tail
def okMany (m : Int) : Prop := 1 ≤ m ∧ m ≤ 60
def dval (n m : Int) : Int := dnext n * m / 6075
theorem dval_ok (n : Int) {m : Int} (h : 1 ≤ m) : 0 ≤ dval n m ∧ dval n m < m := by
  obtain ⟨h1, h2⟩ := dnext_ok n
  refine ⟨Int.ediv_nonneg (Int.mul_nonneg h1 (by omega)) (by decide), Int.ediv_lt_of_lt_mul (by decide) ?_⟩
  rw [Int.mul_comm m]
  exact Int.mul_lt_mul_of_pos_right h2 (by omega)
def sp_Dice_below (K : PySem.W.Frag) : Sp := fun vs H Q E => ∃ (p : Addr) (n m : Int) (R : List As), vs = [.ref p, .int m] ∧ okSeed n ∧ Sep (DiceR K p n :: R) H ∧
  (okMany m → ∀ H', Sep (DiceR K p (dnext n) :: R) H' → Q (.int (dval n m)) H') ∧ (¬ okMany m → ∀ H', Sep (DiceR K p n :: R) H' → E (.ref (He.ga K "BadNumber")) none H')
theorem ln_Dice_below : ∀ vs H Q E, sp_Dice_below K vs H Q E → vs.length = (["self", "many"] : List Str).length := by
  rintro _ _ _ _ ⟨p, n, m, R, rfl, _⟩
  rfl
theorem sc_Dice_below : FnScope ["self", "many"] ["self", "many"] (defScope s_Dice_below) := ⟨rfl, rfl, rfl, by decide +kernel, rfl, by decide +kernel, by decide +kernel⟩
theorem ok_Dice_below (T : Top K mg) : OkD P w K mg base d_Dice_below 1 ["self", "many"] (sp_Dice_below K) := by
  refine okD (df_Dice_below T) sc_Dice_below (fun _ _ _ _ _ _ us hl => match us, hl with | [_, _], _ => rfl) ln_Dice_below (fun cdv A outer s H vs Q E hr h => ⟨_,
      pss_cons (ps_if (pt_not (pt_chain op_le op_le pe_int (pv 1) (px_int rfl (gi_MOST T))))
       (pss_one (px_raise rfl tkD rfl (gl_BadNumber T) (xc_BadNumber T)))
       (pss_nil))
      (pss_cons (ps_fld (pv 0) (pe_op op_mod (pe_op op_addA (pe_op op_mulA (px_int rfl (gi_TIMES T)) (pe_fld (pv 0) rfl)) (px_int rfl (gi_MORE T))) (px_int rfl (gi_WHEEL T))) rfl)
      (pss_one (ps_ret (pe_op op_fdiv (pe_op op_mulA (pe_fld (pv 0) rfl) (pv 1)) (px_int rfl (gi_WHEEL T)))))), ?_⟩)
  obtain ⟨p, n, m, R, rfl, hn, hS, h1, h2⟩ := h
  obtain ⟨dx, hS⟩ := hS.ex
  have hd := dnext_ok n
  walk_at "go"
  refine x_dec (fun ha => ?_) (fun ha => ?_)
  · walk_at "s"
    refine x_ndec (fun hb => ?_) (fun hb => ?_)
    · walk_at "s"
      exact h2 (fun z => hb z.2) _ (hS.exi dx)
    · walk_at "s"
      refine x_mulI (.inl ⟨by decide, by decide⟩) ?_
      walk_at "s"
      refine x_I (by decide) ?_
      walk_at "s"
      refine x_mulI (.inl ⟨by have := hd.1; omega, by have := hd.2; omega⟩) ?_
      walk_at "s"
      refine x_I ⟨by decide, by decide⟩ ?_
      exact h1 ⟨ha, hb⟩ _ (hS.exi dx)
  · walk_at "s"
    exact h2 (fun z => ha z.1) _ (hS.exi dx)
/-! ### mixed -/
def swp (xs : List V) (i j : Nat) : List V := (xs.set i (xs.getD j .non)).set j (xs.getD i .non)
theorem swp_length (xs : List V) (i j : Nat) : (swp xs i j).length = xs.length := by
  unfold swp
  rw [List.length_set, List.length_set]
/-- the thing at place k goes to a drawn place -/
def mixS (k : Nat) (s : Int × List V) : Int × List V := (dnext s.1, swp s.2 k (dval s.1 (k + 1)).toNat)
def mixI (L : Nat) : Nat → Int × List V → Int × List V
  | 0, s => s
  | i + 1, s => mixS (L - 1 - i) (mixI L i s)
theorem mixI_length (L : Nat) (s : Int × List V) : ∀ i, (mixI L i s).2.length = s.2.length
  | 0 => rfl
  | i + 1 => by
    show (swp _ _ _).length = _
    rw [swp_length, mixI_length L s i]
theorem mixI_ok (L : Nat) {s : Int × List V} (h : okSeed s.1) : ∀ i, okSeed (mixI L i s).1
  | 0 => h
  | i + 1 => dnext_ok _
def mixd (n : Int) (xs : List V) : Int × List V := mixI xs.length (xs.length - 1) (n, xs)
def sp_mixed (K : PySem.W.Frag) : Sp := fun vs H Q E => ∃ (p q : Addr) (n : Int) (xs : List V) (R : List As), vs = [.ref p, .ref q] ∧ okSeed n ∧ xs.length ≤ 60 ∧ Sep (DiceR K p n :: pt q (.lst xs) :: R) H ∧
  (∀ l H', Sep (pt l (.lst (mixd n xs).2) :: DiceR K p (mixd n xs).1 :: pt q (.lst xs) :: R) H' → Q (.ref l) H')
theorem ln_mixed : ∀ vs H Q E, sp_mixed K vs H Q E → vs.length = (["dice", "some"] : List Str).length := by
  rintro _ _ _ _ ⟨p, q, n, xs, R, rfl, _⟩
  rfl
theorem sc_mixed : FnScope ["dice", "some", "found", "k", "other"] ["dice", "some"] (defScope s_mixed) := ⟨rfl, rfl, rfl, by decide +kernel, rfl, by decide +kernel, by decide +kernel⟩
theorem ok_mixed (T : Top K mg) : OkD P w K mg base d_mixed 2 ["dice", "some"] (sp_mixed K) := by
  refine okD (df_mixed T) sc_mixed (fun _ _ _ _ _ _ us hl => match us, hl with | [_, _], _ => rfl) ln_mixed (fun cdv A outer s H vs Q E hr h => ⟨_,
      pss_cons (ps_set (i := 2) sc_mixed.nd rfl (Or.inl rfl) (pe_callTy call_listOf (by rfl) (fr_list T) (by decide +kernel) (pa_cons (pv 1) pa_nil)))
      (pss_cons (ps_for (passes_of rfl) rfl (pi_range3 rfl (fr_range T) (pa_cons (pe_op op_sub (pe_callB call_lenA (by rfl) (fr_len T) (by decide +kernel) (pa_cons (pv 2) pa_nil)) pe_int) (pa_cons pe_int (pa_cons (pe_un un_neg pe_int) pa_nil)))) (pg_name (i := 3) sc_mixed.nd rfl (Or.inl rfl))
       (pss_cons (ps_set (i := 4) sc_mixed.nd rfl (Or.inl rfl) (px_meth (ok_Dice_below T) (hr.mono (by decide)) (pv 0) (cl_Dice T) (me_Dice_below T) (fun σ => paD σ) (pa_cons (pe_op op_addA (pv 3) pe_int) pa_nil)))
        (pss_one (ps_asg (pe_tup (pa_cons (pe_ix ix_seq (pv 2) (pv 4) (fun _ _ => rfl)) (pa_cons (pe_ix ix_seq (pv 2) (pv 3) (fun _ _ => rfl)) pa_nil))) (pg_tup (n := 2) rfl (pgs_cons (pg_sub (pv 2) (pv 3) set_list) (pgs_cons (pg_sub (pv 2) (pv 4) set_list) pgs_nil)))))))
      (pss_one (ps_ret (pv 2)))), ?_⟩)
  obtain ⟨p, q, n, xs, R, rfl, hn, hx, hS, h1⟩ := h
  walk_at "go"
  refine x_listOf hS (sqL hS) fun l H hS => ?_
  walk_at "s"
  refine x_lenL (sqL hS) ?_
  walk_at "s"
  refine y_for3 (fun i σ H => ∃ a b : Option V, σ = [some (.ref p), some (.ref q), some (.ref l), a, b] ∧ Sep (pt l (.lst (mixI xs.length i (n, xs)).2) :: DiceR K p (mixI xs.length i (n, xs)).1 :: pt q (.lst xs) :: R) H)
    (by omega) (by omega) ⟨none, none, rfl, hS⟩ ?_ ?_
  · rintro i σ H hi ⟨a, b, rfl, hS⟩
    have hL : (mixI xs.length i (n, xs)).2.length = xs.length := mixI_length xs.length (n, xs) i
    have hok := mixI_ok xs.length (s := (n, xs)) hn i
    obtain ⟨k, hk, hk2⟩ : ∃ k : Nat, ((xs.length : Int) - 1 - (i : Nat)) = (k : Nat) ∧ xs.length - 1 - i = k := ⟨xs.length - 1 - i, by omega, rfl⟩
    have e2 : (mixI xs.length (i + 1) (n, xs)) = mixS k (mixI xs.length i (n, xs)) := by
      rw [← hk2] <;> rfl
    have dv := dval_ok (mixI xs.length i (n, xs)).1 (m := (k : Int) + 1) (by omega)
    rw [hk, e2]
    obtain ⟨s, hs⟩ : ∃ s, s = mixI xs.length i (n, xs) := ⟨_, rfl⟩
    rw [← hs] at hL hok dv hS ⊢
    walk_at "s"
    refine ⟨p, _, _, _, rfl, hok, hS.own p, fun _ H hS => ?_, fun hn => absurd (show okMany _ from ⟨by omega, by omega⟩) hn⟩
    walk_at "s"
    refine x_ixL (sqL hS) (atI_some (v := s.2.getD (dval s.1 (k + 1)).toNat .non) dv.1 (getD_some (by omega))) ?_
    walk_at "s"
    refine x_ixL (sqL hS) (atI_nat (v := s.2.getD k .non) (getD_some (by omega))) ?_
    walk_at "s"
    refine x_gtup (sqT hS) rfl ?_
    walk_at "s"
    refine y_setL hS (ixN_some (by omega) (by omega)) (fun H hS => ?_)
    walk_at "s"
    refine y_setL hS (ixN_some (by omega) (by rw [List.length_set]; omega)) (fun H hS => ?_)
    walk_at "s"
    refine ⟨_, _, rfl, ?_⟩
    rw [Int.toNat_natCast] at hS
    exact (show Sep (pt l (.lst (mixS k s).2) :: pt u _ :: DiceR K p (mixS k s).1 :: pt q (.lst xs) :: R) H from hS).of (En.cons (En.drop (En.cons (En.cons En.refl))))
  · rintro σ H ⟨a, b, rfl, hS⟩
    walk_at "s"
    refine h1 l _ ?_
    have e : ((xs.length : Int) - 1 - 0).toNat = xs.length - 1 := by omega
    rw [e] at hS
    exact hS

theorem swp_perm {xs : List V} {i j : Nat} (hi : i < xs.length) (hj : j < xs.length) : (swp xs i j).Perm xs := by
  unfold swp
  rw [List.getD_eq_getElem?_getD, List.getElem?_eq_getElem hj, List.getD_eq_getElem?_getD, List.getElem?_eq_getElem hi]
  show ((xs.set i xs[j]).set j xs[i]).Perm xs
  exact List.set_set_perm hi hj
theorem mixI_perm {L : Nat} {s : Int × List V} (hs : s.2.length = L) : ∀ i, i < L → (mixI L i s).2.Perm s.2
  | 0, _ => .refl _
  | i + 1, h => by
    have ih := mixI_perm hs i (by omega)
    have hl := mixI_length L s i
    have dv := dval_ok (mixI L i s).1 (m := ((L - 1 - i : Nat) : Int) + 1) (by omega)
    exact (swp_perm (by omega) (by omega)).trans ih
theorem mixd_perm (n : Int) (xs : List V) : (mixd n xs).2.Perm xs := by
  unfold mixd
  by_cases h : xs.length = 0
  · rw [h]
    exact .refl _
  · exact mixI_perm (L := xs.length) (s := (n, xs)) rfl (xs.length - 1) (by omega)
theorem mixd_ok {n : Int} (h : okSeed n) (xs : List V) : okSeed (mixd n xs).1 := mixI_ok _ (s := (n, xs)) h _

end
end TR

set_option Elab.async false
set_option linter.all false
set_option maxRecDepth 100000
set_option maxHeartbeats 4000000
/-! .. -/
set_option hygiene false
local macro_rules | `(tactic| walk_at "s1") => `(tactic| first
  | (with_reducible refine x_seq ?_)
  | (with_reducible refine x_asg ?_)
  | (with_reducible refine y_asg ?_)
  | (with_reducible refine x_name ?_)
  | (with_reducible refine x_ifS ?_)
  | (with_reducible refine y_ifS ?_)
  | (with_reducible refine x_ret ?_)
  | (with_reducible refine x_retN ?_)
  | (with_reducible refine x_drop ?_)
  | (with_reducible refine y_drop ?_)
  | (with_reducible refine x_next ?_)
  | (with_reducible refine x_cont ?_)
  | (with_reducible refine x_test ?_)
  | (with_reducible refine x_tB ?_)
  | (with_reducible refine y_test ?_)
  | (with_reducible refine x_not ?_)
  | (with_reducible refine y_not ?_)
  | (with_reducible refine x_and ?_)
  | (with_reducible refine y_and ?_)
  | (with_reducible refine x_or ?_)
  | (with_reducible refine y_or ?_)
  | (with_reducible refine x_chain ?_)
  | (with_reducible refine y_ch1 ?_)
  | (with_reducible refine y_ch2 ?_)
  | (with_reducible refine y_ch3 ?_)
  | (with_reducible refine x_andV ?_)
  | (with_reducible refine y_andV ?_)
  | (with_reducible refine x_orV ?_)
  | (with_reducible refine y_orV ?_)
  | (with_reducible refine x_notV ?_)
  | (with_reducible refine y_notV ?_)
  | (with_reducible refine x_if ?_)
  | (with_reducible refine y_ifE ?_)
  | (with_reducible refine x_op ?_)
  | (with_reducible refine y_op1 ?_)
  | (with_reducible refine y_op2 ?_)
  | (with_reducible refine x_un ?_)
  | (with_reducible refine y_neg ?_)
  | (with_reducible refine x_c ?_)
  | (with_reducible refine x_fld ?_)
  | (with_reducible refine x_sfld ?_)
  | (with_reducible refine y_sf ?_)
  | (with_reducible refine x_nil ?_)
  | (with_reducible refine x_cons ?_)
  | (with_reducible refine y_c1 ?_)
  | (with_reducible refine y_c2 ?_)
  | (with_reducible refine x_callS ?_)
  | (with_reducible refine y_sp ?_)
  | (with_reducible refine x_meth ?_)
  | (with_reducible refine y_mt2 ?_)
  | (with_reducible refine x_make ?_)
  | (with_reducible refine y_mq ?_)
  | (with_reducible refine x_cb ?_)
  | (with_reducible refine y_cb ?_)
  | (with_reducible refine x_bm ?_)
  | (with_reducible refine y_bq ?_)
  | (with_reducible refine x_bm0 ?_)
  | (with_reducible refine x_rz ?_)
  | (with_reducible refine x_lst ?_)
  | (with_reducible refine x_tup ?_)
  | (with_reducible refine x_sub ?_)
  | (with_reducible refine y_sb1 ?_)
  | (with_reducible refine x_for1 ?_)
  | (with_reducible refine x_forL ?_)
  | (with_reducible refine x_for3 ?_)
  | (with_reducible refine x_forT ?_)
  | (with_reducible refine y_body ?_)
  | (with_reducible refine x_tru ?_)
  | (with_reducible refine y_trub ?_)
  | (with_reducible refine y_trui ?_)
  | (with_reducible refine y_trun ?_)
  | (with_reducible refine x_gcons ?_)
  | (with_reducible refine y_g ?_)
  | (with_reducible refine x_gnil ?_)
  | (with_reducible refine x_rev ?_)
  | (with_reducible refine x_sl ?_)
  | (with_reducible refine y_sl1 ?_)
  | (with_reducible refine y_sl2 ?_)
  | (with_reducible refine y_sl3 ?_)
  | (with_reducible refine x_nop ?_)
  | (with_reducible refine x_part ?_)
  | (with_reducible refine y_part ?_)
  | (with_reducible refine x_lrange1 ?_)
  | (with_reducible refine x_lrange2 ?_)
  | (with_reducible refine y_lr2 ?_)
  | (with_reducible refine x_addI ?_)
  | (with_reducible refine x_dget ?_)
  | (with_reducible refine y_dg1 ?_)
  | (with_reducible refine x_din ?_)
  | (with_reducible refine y_di1 ?_)
  | (with_reducible refine x_dnotin ?_)
  | (with_reducible refine y_dn1 ?_)
  | (with_reducible refine x_dput ?_)
  | (with_reducible refine y_dp1 ?_)
  | (with_reducible refine y_dp2 ?_)
  | (with_reducible refine x_dnew hS (fun u H hS => ?_))
  | ((with_reducible refine x_try (fun pn xe tk po => ?_)); (try dsimp only [cxOf]))
  | (with_reducible refine x_lcT ?_)
  | (with_reducible refine x_lcL ?_)
  | (with_reducible refine y_tt ?_)
  | (with_reducible refine x_yes' ?_)
  | ((with_reducible refine' y_lcb ?h1 ?_); (case h1 => exact rfl))
  | (with_reducible refine x_I0 ?_)
  | (with_reducible refine x_eqI ?_)
  | (with_reducible refine x_neI ?_)
  | (with_reducible refine x_isN ?_)
  | (with_reducible refine x_notN ?_)
  | (with_reducible refine x_tt ?_)
  | (with_reducible refine x_ff ?_)
  | (with_reducible refine x_nt ?_)
  | (with_reducible refine x_nf ?_)
  | (with_reducible refine y_fld hS ?_)
  | (with_reducible refine y_meth hS ?_)
  | (with_reducible refine y_put hS (fun H hS => ?_))
  | ((with_reducible refine' x_var ?h1 ?_); (case h1 => exact rfl))
  | (with_reducible refine y_lst hS (by first | decide | (show _ ≤ sizeLine; simp only [List.length_cons, List.length_nil]; decide)) (fun u H hS => ?_))
  | (with_reducible refine y_tup hS (by first | decide | (show _ ≤ sizeLine; simp only [List.length_cons, List.length_nil]; decide)) (fun u H hS => ?_)))
local macro_rules | `(tactic| walk_at "s") => `(tactic| repeat walk_at "s1")
local macro_rules | `(tactic| walk_at "go") => `(tactic| (dsimp only [cxOf]; repeat walk_at "s1"))

namespace TR
open PySem PySem.Spec PyProof.Rows L2
section
variable {P : Program} {w : World} {K : PySem.W.Frag} {mg : Str → Option Value} {base : Heap}
/-! ### the law's own dice -/
def sp_l_below (K : PySem.W.Frag) : Sp := fun vs H Q E => ∃ (p : Addr) (n m : Int) (R : List As), vs = [.ref p, .int m] ∧ Sep (pt p (.lst [.int n]) :: R) H ∧ ∀ H', Sep (pt p (.lst [.int (dnext n)]) :: R) H' → Q (.int (dval n m)) H'
theorem ln_l_below : ∀ vs H Q E, sp_l_below K vs H Q E → vs.length = (["_law_dice", "_law_many"] : List Str).length := by
  rintro _ _ _ _ ⟨p, n, m, R, rfl, _⟩
  rfl
theorem sc_l_below : FnScope ["_law_dice", "_law_many"] ["_law_dice", "_law_many"] (defScope s_l_below) := ⟨rfl, rfl, rfl, by decide +kernel, rfl, by decide +kernel, by decide +kernel⟩
theorem ok_l_below (T : Top K mg) : OkD P w K mg base d_l_below 1 ["_law_dice", "_law_many"] (sp_l_below K) := by
  refine okD (df_l_below T) sc_l_below (fun _ _ _ _ _ _ us hl => match us, hl with | [_, _], _ => rfl) ln_l_below (fun cdv A outer s H vs Q E hr h => ⟨_,
      pss_cons (ps_asg (pe_op op_mod (pe_op op_addA (pe_op op_mulA pe_int (pe_ix ix_seq (pv 0) pe_int (fun _ _ => rfl))) pe_int) pe_int) (pg_sub (pv 0) pe_int set_list))
      (pss_one (ps_ret (pe_op op_fdiv (pe_op op_mulA (pe_ix ix_seq (pv 0) pe_int (fun _ _ => rfl)) (pv 1)) pe_int))), ?_⟩)
  obtain ⟨p, n, m, R, rfl, hS, h1⟩ := h
  have hd := dnext_ok n
  walk_at "go"
  refine x_ixL (sqL hS) (atI_nat (j := 0) rfl) ?_
  walk_at "s"
  refine x_mulI (.inl ⟨by decide, by decide⟩) ?_
  walk_at "s"
  refine x_I (by decide) ?_
  walk_at "s"
  refine y_setL hS (j := 0) rfl (fun H hS => ?_)
  walk_at "s"
  refine x_ixL (sqL hS) (atI_nat (j := 0) rfl) ?_
  walk_at "s"
  refine x_mulI (.inl ⟨by have := hd.1; unfold dnext at this; omega, by have := hd.2; unfold dnext at this; omega⟩) ?_
  walk_at "s"
  refine x_I ⟨by decide, by decide⟩ ?_
  exact h1 _ hS
def sp_l_mixed (K : PySem.W.Frag) : Sp := fun vs H Q E => ∃ (p q : Addr) (n : Int) (xs : List V) (R : List As), vs = [.ref p, .ref q] ∧ xs.length ≤ 60 ∧ Sep (pt p (.lst [.int n]) :: pt q (.lst xs) :: R) H ∧
  (∀ l H', Sep (pt l (.lst (mixd n xs).2) :: pt p (.lst [.int (mixd n xs).1]) :: pt q (.lst xs) :: R) H' → Q (.ref l) H')
theorem ln_l_mixed : ∀ vs H Q E, sp_l_mixed K vs H Q E → vs.length = (["_law_dice", "_law_some"] : List Str).length := by
  rintro _ _ _ _ ⟨p, q, n, xs, R, rfl, _⟩
  rfl
theorem rgV_rev {n i : Nat} {x : V} (h : (rgV 1 (n : Nat)).reverse[i]? = some x) : i < n - 1 ∧ x = .int ((n - 1 - i : Nat) : Int) := by
  have hl : (rgV 1 (n : Nat)).length = n - 1 := by
    rw [rgV_length]
    omega
  have hi : i < n - 1 := by
    have := (List.getElem?_eq_some_iff.mp h).1
    rw [List.length_reverse, hl] at this
    exact this
  refine ⟨hi, ?_⟩
  rw [List.getElem?_reverse (by rw [hl]; exact hi), hl] at h
  unfold rgV at h
  rw [List.getElem?_map, List.getElem?_range (by omega)] at h
  have e := Option.some.inj h
  rw [← e]
  have e3 : (1 : Int) + ((n - 1 - 1 - i : Nat) : Int) = ((n - 1 - i : Nat) : Int) := by omega
  show V.int ((1 : Int) + ((n - 1 - 1 - i : Nat) : Int)) = _
  rw [e3]
theorem sc_l_mixed : FnScope ["_law_dice", "_law_some", "_law_found", "_law_k", "_law_other", "_law_one"] ["_law_dice", "_law_some"] (defScope s_l_mixed) := ⟨rfl, rfl, rfl, by decide +kernel, rfl, by decide +kernel, by decide +kernel⟩
theorem ok_l_mixed (T : Top K mg) : OkD P w K mg base d_l_mixed 2 ["_law_dice", "_law_some"] (sp_l_mixed K) := by
  refine okD (df_l_mixed T) sc_l_mixed (fun _ _ _ _ _ _ us hl => match us, hl with | [_, _], _ => rfl) ln_l_mixed (fun cdv A outer s H vs Q E hr h => ⟨_,
      pss_cons (ps_set (i := 2) sc_l_mixed.nd rfl (Or.inl rfl) (pe_callTy call_listOf (by rfl) (fr_list T) (by decide +kernel) (pa_cons (pv 1) pa_nil)))
      (pss_cons (ps_for (passes_of rfl) rfl (pi_list (pe_revL (pe_listRg rfl rfl (fr_list T) (prg_2 rfl (fr_range T) pe_int (pe_callB call_lenA (by rfl) (fr_len T) (by decide +kernel) (pa_cons (pv 2) pa_nil)))))) (pg_name (i := 3) sc_l_mixed.nd rfl (Or.inl rfl))
       (pss_cons (ps_set (i := 4) sc_l_mixed.nd rfl (Or.inl rfl) (px_call (ok_l_below T) (hr.mono (by decide)) rfl (gl__law_below T) (fun σ => paD σ) (pa_cons (pv 0) (pa_cons (pe_op op_addA (pv 3) pe_int) pa_nil))))
        (pss_cons (ps_set (i := 5) sc_l_mixed.nd rfl (Or.inl rfl) (pe_ix ix_seq (pv 2) (pv 3) (fun _ _ => rfl)))
        (pss_cons (ps_asg (pe_ix ix_seq (pv 2) (pv 4) (fun _ _ => rfl)) (pg_sub (pv 2) (pv 3) set_list))
        (pss_one (ps_asg (pv 5) (pg_sub (pv 2) (pv 4) set_list)))))))
      (pss_one (ps_ret (pv 2)))), ?_⟩)
  obtain ⟨p, q, n, xs, R, rfl, hx, hS, h1⟩ := h
  walk_at "go"
  refine x_listOf hS (sqL hS) fun l H hS => ?_
  walk_at "s"
  refine x_lenL (sqL hS) ?_
  walk_at "s"
  refine y_lrange2 hS (.of_le (by decide) (by omega) (by decide) (by omega)) fun l2 H hS => ?_
  walk_at "s"
  refine y_rev hS (sqL hS) fun l3 H hS => ?_
  have hle : (rgV 1 (xs.length : Nat)).reverse.length = xs.length - 1 := by
    rw [List.length_reverse, rgV_length]
    omega
  refine y_forL (fun i σ H => ∃ a b c : Option V, σ = [some (.ref p), some (.ref q), some (.ref l), a, b, c] ∧ Sep (pt l (.lst (mixI xs.length i (n, xs)).2) :: pt p (.lst [.int (mixI xs.length i (n, xs)).1]) :: pt l3 (.lst (rgV 1 (xs.length : Nat)).reverse) :: pt q (.lst xs) :: R) H)
    (sqL hS) ⟨none, none, none, rfl, (show Sep (pt l3 _ :: pt l2 _ :: pt l (.lst (mixI xs.length 0 (n, xs)).2) :: pt p (.lst [.int (mixI xs.length 0 (n, xs)).1]) :: pt q _ :: R) H from hS).of (En.cons (En.cons (En.cons (En.drop En.refl))))⟩ (fun i σ H hi ⟨_, _, _, _, hS⟩ => sqL hS) ?_ ?_
  · rintro i x σ H hi ⟨a, b, c, rfl, hS⟩
    obtain ⟨hi, rfl⟩ := rgV_rev hi
    have hL : (mixI xs.length i (n, xs)).2.length = xs.length := mixI_length xs.length (n, xs) i
    have e2 : (mixI xs.length (i + 1) (n, xs)) = mixS (xs.length - 1 - i) (mixI xs.length i (n, xs)) := rfl
    obtain ⟨k, hk⟩ : ∃ k : Nat, xs.length - 1 - i = k := ⟨_, rfl⟩
    have dv := dval_ok (mixI xs.length i (n, xs)).1 (m := (k : Int) + 1) (by omega)
    rw [e2, hk]
    obtain ⟨s, hs⟩ : ∃ s, s = mixI xs.length i (n, xs) := ⟨_, rfl⟩
    rw [← hs] at hL dv hS ⊢
    walk_at "s"
    refine ⟨p, _, _, _, rfl, hS.own p, fun H hS => ?_⟩
    walk_at "s"
    refine x_ixL (sqL hS) (atI_nat (v := s.2.getD k .non) (getD_some (by omega))) ?_
    walk_at "s"
    refine x_ixL (sqL hS) (atI_some (v := s.2.getD (dval s.1 (k + 1)).toNat .non) dv.1 (getD_some (by omega))) ?_
    walk_at "s"
    refine y_setL hS (ixN_some (by omega) (by omega)) (fun H hS => ?_)
    walk_at "s"
    refine y_setL hS (ixN_some (by omega) (by rw [List.length_set]; omega)) (fun H hS => ?_)
    walk_at "s"
    refine ⟨_, _, _, rfl, ?_⟩
    rw [Int.toNat_natCast] at hS
    exact (show Sep (pt l (.lst (mixS k s).2) :: pt p (.lst [.int (mixS k s).1]) :: pt l3 _ :: pt q (.lst xs) :: R) H from hS)
  · rintro σ H ⟨a, b, c, rfl, hS⟩
    walk_at "s"
    rw [hle] at hS
    exact h1 l _ ((show Sep (pt l (.lst (mixd n xs).2) :: pt p (.lst [.int (mixd n xs).1]) :: pt l3 _ :: pt q (.lst xs) :: R) H from hS).of (En.cons (En.cons (En.drop En.refl))))

end
end TR

set_option Elab.async false
set_option linter.all false
set_option maxRecDepth 100000
set_option maxHeartbeats 4000000
/-! .. -/
set_option hygiene false
local macro_rules | `(tactic| walk_at "s1") => `(tactic| first
  | (with_reducible refine x_seq ?_)
  | (with_reducible refine x_asg ?_)
  | (with_reducible refine y_asg ?_)
  | (with_reducible refine x_name ?_)
  | (with_reducible refine x_ifS ?_)
  | (with_reducible refine y_ifS ?_)
  | (with_reducible refine x_ret ?_)
  | (with_reducible refine x_retN ?_)
  | (with_reducible refine x_drop ?_)
  | (with_reducible refine y_drop ?_)
  | (with_reducible refine x_next ?_)
  | (with_reducible refine x_cont ?_)
  | (with_reducible refine x_test ?_)
  | (with_reducible refine x_tB ?_)
  | (with_reducible refine y_test ?_)
  | (with_reducible refine x_not ?_)
  | (with_reducible refine y_not ?_)
  | (with_reducible refine x_and ?_)
  | (with_reducible refine y_and ?_)
  | (with_reducible refine x_or ?_)
  | (with_reducible refine y_or ?_)
  | (with_reducible refine x_chain ?_)
  | (with_reducible refine y_ch1 ?_)
  | (with_reducible refine y_ch2 ?_)
  | (with_reducible refine y_ch3 ?_)
  | (with_reducible refine x_andV ?_)
  | (with_reducible refine y_andV ?_)
  | (with_reducible refine x_orV ?_)
  | (with_reducible refine y_orV ?_)
  | (with_reducible refine x_notV ?_)
  | (with_reducible refine y_notV ?_)
  | (with_reducible refine x_if ?_)
  | (with_reducible refine y_ifE ?_)
  | (with_reducible refine x_op ?_)
  | (with_reducible refine y_op1 ?_)
  | (with_reducible refine y_op2 ?_)
  | (with_reducible refine x_un ?_)
  | (with_reducible refine y_neg ?_)
  | (with_reducible refine x_c ?_)
  | (with_reducible refine x_fld ?_)
  | (with_reducible refine x_sfld ?_)
  | (with_reducible refine y_sf ?_)
  | (with_reducible refine x_nil ?_)
  | (with_reducible refine x_cons ?_)
  | (with_reducible refine y_c1 ?_)
  | (with_reducible refine y_c2 ?_)
  | (with_reducible refine x_callS ?_)
  | (with_reducible refine y_sp ?_)
  | (with_reducible refine x_meth ?_)
  | (with_reducible refine y_mt2 ?_)
  | (with_reducible refine x_make ?_)
  | (with_reducible refine y_mq ?_)
  | (with_reducible refine x_cb ?_)
  | (with_reducible refine y_cb ?_)
  | (with_reducible refine x_bm ?_)
  | (with_reducible refine y_bq ?_)
  | (with_reducible refine x_bm0 ?_)
  | (with_reducible refine x_rz ?_)
  | (with_reducible refine x_lst ?_)
  | (with_reducible refine x_tup ?_)
  | (with_reducible refine x_sub ?_)
  | (with_reducible refine y_sb1 ?_)
  | (with_reducible refine x_for1 ?_)
  | (with_reducible refine x_forL ?_)
  | (with_reducible refine x_for3 ?_)
  | (with_reducible refine x_forT ?_)
  | (with_reducible refine y_body ?_)
  | (with_reducible refine x_tru ?_)
  | (with_reducible refine y_trub ?_)
  | (with_reducible refine y_trui ?_)
  | (with_reducible refine y_trun ?_)
  | (with_reducible refine x_gcons ?_)
  | (with_reducible refine y_g ?_)
  | (with_reducible refine x_gnil ?_)
  | (with_reducible refine x_rev ?_)
  | (with_reducible refine x_sl ?_)
  | (with_reducible refine y_sl1 ?_)
  | (with_reducible refine y_sl2 ?_)
  | (with_reducible refine y_sl3 ?_)
  | (with_reducible refine x_nop ?_)
  | (with_reducible refine x_part ?_)
  | (with_reducible refine y_part ?_)
  | (with_reducible refine x_lrange1 ?_)
  | (with_reducible refine x_lrange2 ?_)
  | (with_reducible refine y_lr2 ?_)
  | (with_reducible refine x_addI ?_)
  | (with_reducible refine x_dget ?_)
  | (with_reducible refine y_dg1 ?_)
  | (with_reducible refine x_din ?_)
  | (with_reducible refine y_di1 ?_)
  | (with_reducible refine x_dnotin ?_)
  | (with_reducible refine y_dn1 ?_)
  | (with_reducible refine x_dput ?_)
  | (with_reducible refine y_dp1 ?_)
  | (with_reducible refine y_dp2 ?_)
  | (with_reducible refine x_dnew hS (fun u H hS => ?_))
  | ((with_reducible refine x_try (fun pn xe tk po => ?_)); (try dsimp only [cxOf]))
  | (with_reducible refine x_lcT ?_)
  | (with_reducible refine x_lcL ?_)
  | (with_reducible refine y_tt ?_)
  | (with_reducible refine x_yes' ?_)
  | ((with_reducible refine' y_lcb ?h1 ?_); (case h1 => exact rfl))
  | (with_reducible refine x_I0 ?_)
  | (with_reducible refine x_eqI ?_)
  | (with_reducible refine x_neI ?_)
  | (with_reducible refine x_isN ?_)
  | (with_reducible refine x_notN ?_)
  | (with_reducible refine x_tt ?_)
  | (with_reducible refine x_ff ?_)
  | (with_reducible refine x_nt ?_)
  | (with_reducible refine x_nf ?_)
  | (with_reducible refine y_fld hS ?_)
  | (with_reducible refine y_meth hS ?_)
  | (with_reducible refine y_put hS (fun H hS => ?_))
  | ((with_reducible refine' x_var ?h1 ?_); (case h1 => exact rfl))
  | (with_reducible refine y_lst hS (by first | decide | (show _ ≤ sizeLine; simp only [List.length_cons, List.length_nil]; decide)) (fun u H hS => ?_))
  | (with_reducible refine y_tup hS (by first | decide | (show _ ≤ sizeLine; simp only [List.length_cons, List.length_nil]; decide)) (fun u H hS => ?_)))
local macro_rules | `(tactic| walk_at "s") => `(tactic| repeat walk_at "s1")
local macro_rules | `(tactic| walk_at "go") => `(tactic| (dsimp only [cxOf]; repeat walk_at "s1"))

namespace TR
open PySem PySem.Spec PyProof.Rows L2
section
variable {P : Program} {w : World} {K : PySem.W.Frag} {mg : Str → Option Value} {base : Heap}
/-! ### queues -/
structure QS where
  turn : List Int
  tunes : List Str
/-- the entries' tunes as a dict, from 1 on -/
def dN : Nat → List Str → List (Key × V)
  | _, [] => []
  | n, z :: r => (.inl ((n : Int) + 1), .str z) :: dN (n + 1) r
theorem dN_length : ∀ (n : Nat) (zs : List Str), (dN n zs).length = zs.length
  | _, [] => rfl
  | n, z :: r => by
    show (dN (n + 1) r).length + 1 = r.length + 1
    rw [dN_length]
theorem dN_val : ∀ (n : Nat) (zs : List Str) (i : Int), valV (dN n zs) (.inl i) = if (n : Int) < i then (zs[(i - n - 1).toNat]?).map V.str else none
  | n, [], i => by
    show none = _
    split <;> simp
  | n, z :: r, i => by
    show valV ((.inl ((n : Int) + 1), .str z) :: dN (n + 1) r) (.inl i) = _
    by_cases e : (n : Int) + 1 = i
    · rw [valV_pos (p := (Sum.inl ((n : Int) + 1), V.str z)) (congrArg Sum.inl e), if_pos (by omega), show (i - n - 1).toNat = 0 by omega] <;> rfl
    · rw [valV_neg (p := (Sum.inl ((n : Int) + 1), V.str z)) (fun q => e (Sum.inl.inj q)), dN_val (n + 1) r i]
      by_cases h : (n : Int) + 1 < i
      · rw [if_pos (by omega), if_pos (by omega), show (i - n - 1).toNat = (i - ((n + 1 : Nat) : Int) - 1).toNat + 1 by omega] <;> rfl
      · rw [if_neg (by omega), if_neg (by omega)]
theorem dN_snoc : ∀ (n : Nat) (zs : List Str) (z : Str), dN n (zs ++ [z]) = dN n zs ++ [(.inl ((n + zs.length : Nat) + 1 : Int), .str z)]
  | n, [], z => rfl
  | n, y :: r, z => by
    show (_ :: dN (n + 1) (r ++ [z])) = _
    rw [dN_snoc (n + 1) r z]
    show _ = (_ :: (dN (n + 1) r ++ _))
    rw [show n + 1 + r.length = n + (y :: r).length by rw [List.length_cons]; omega]
theorem dN_put (zs : List Str) (z : Str) : putK (dN 0 zs) (.inl ((zs.length : Int) + 1)) (.str z) = dN 0 (zs ++ [z]) := by
  rw [putK_new _ (by rw [dN_val, if_pos (by omega), List.getElem?_eq_none (by omega)] <;> rfl), dN_snoc, Nat.zero_add]
def QueueR (K : PySem.W.Frag) (p : Addr) (S : QS) : As := ex fun dx => ex fun t => ex fun l => all [pt p (.ins (He.ga K "Queue") dx (nmQueue.zip [.ref t, .ref l, .int (S.tunes.length : Nat)])), pt t (.dK (dN 0 S.tunes)), pt l (.lst (S.turn.map V.int))]
instance {K : PySem.W.Frag} {p : Addr} {S : QS} : Kys (QueueR K p S) p := ⟨trivial⟩
instance {K : PySem.W.Frag} {p : Addr} {S : QS} : IsOb (QueueR K p S) p (He.ga K "Queue") nmQueue := ⟨fun h ⟨dx, t, l, a⟩ => ⟨dx, _, Sep.get a⟩⟩
theorem Sep.opQ {p : Addr} {S : QS} {R : List As} {H : Hp} (h : Sep (QueueR K p S :: R) H) : ∃ dx t l, Sep (pt p (.ins (He.ga K "Queue") dx (nmQueue.zip [.ref t, .ref l, .int (S.tunes.length : Nat)])) :: pt t (.dK (dN 0 S.tunes)) :: pt l (.lst (S.turn.map V.int)) :: R) H := by
  obtain ⟨dx, h⟩ := h.ex
  obtain ⟨t, h⟩ := h.ex
  obtain ⟨l, h⟩ := h.ex
  exact ⟨dx, t, l, h.flat⟩
theorem Sep.clQ {p dx t l : Addr} {S : QS} {R : List As} {H : Hp} (h : Sep (pt p (.ins (He.ga K "Queue") dx (nmQueue.zip [.ref t, .ref l, .int (S.tunes.length : Nat)])) :: pt t (.dK (dN 0 S.tunes)) :: pt l (.lst (S.turn.map V.int)) :: R) H) : Sep (QueueR K p S :: R) H :=
  Sep.exi dx (Sep.exi t (Sep.exi l (Sep.wrap h)))
theorem Sep.clQ0 {p dx t l : Addr} {R : List As} {H : Hp} (h : Sep (pt p (.ins (He.ga K "Queue") dx (nmQueue.zip [.ref t, .ref l, .int 0])) :: pt l (.lst []) :: pt t (.dK []) :: R) H) : Sep (QueueR K p ⟨[], []⟩ :: R) H :=
  Sep.clQ (S := ⟨[], []⟩) (show Sep (pt p (.ins (He.ga K "Queue") dx (nmQueue.zip [.ref t, .ref l, .int 0])) :: pt t (.dK []) :: pt l (.lst []) :: R) H from h.of (En.cons En.swap))
theorem Sep.clQ1 {p dx t l : Addr} {S : QS} {n : Int} {R : List As} {H : Hp} (e : n = (S.tunes.length : Nat)) (h : Sep (pt l (.lst (S.turn.map V.int)) :: pt t (.dK (dN 0 S.tunes)) :: pt p (.ins (He.ga K "Queue") dx (nmQueue.zip [.ref t, .ref l, .int n])) :: R) H) : Sep (QueueR K p S :: R) H := by
  subst e
  exact Sep.clQ (p := p) (dx := dx) (t := t) (l := l) (h.of (En.cons (En.cons (En.cons En.refl))))
theorem Sep.clQ2 {p dx t l : Addr} {S : QS} {R : List As} {H : Hp} (h : Sep (pt l (.lst (S.turn.map V.int)) :: pt p (.ins (He.ga K "Queue") dx (nmQueue.zip [.ref t, .ref l, .int (S.tunes.length : Nat)])) :: pt t (.dK (dN 0 S.tunes)) :: R) H) : Sep (QueueR K p S :: R) H :=
  Sep.clQ (p := p) (dx := dx) (t := t) (l := l) (h.of (En.cons (En.cons (En.cons En.refl))))
/-- bounds that the machine asks -/
structure QS.Fit (S : QS) : Prop where
  turn : S.turn.length ≤ 1000
  tunes : S.tunes.length ≤ 100000
def sp_Queue_init (K : PySem.W.Frag) : Sp := fun vs H Q E => ∃ (p dx : Addr) (R : List As), vs = [.ref p] ∧ Sep (pt p (.ins (He.ga K "Queue") dx []) :: R) H ∧ ∀ H', Sep (QueueR K p ⟨[], []⟩ :: R) H' → Q .non H'
theorem ln_Queue_init : ∀ vs H Q E, sp_Queue_init K vs H Q E → vs.length = (["self"] : List Str).length := by
  rintro _ _ _ _ ⟨p, dx, R, rfl, _⟩
  rfl
theorem sc_Queue_init : FnScope ["self"] ["self"] (defScope s_Queue_init) := ⟨rfl, rfl, rfl, by decide +kernel, rfl, by decide +kernel, by decide +kernel⟩
theorem ok_Queue_init (T : Top K mg) : OkD P w K mg base d_Queue_init 1 ["self"] (sp_Queue_init K) := by
  refine okD (df_Queue_init T) sc_Queue_init (fun _ _ _ _ _ _ us hl => match us, hl with | [_], _ => rfl) ln_Queue_init (fun cdv A outer s H vs Q E hr h => ⟨_,
      pss_cons (ps_fld (pv 0) pe_dnewK rfl)
      (pss_cons (ps_fld (pv 0) (pe_lst pa_nil) rfl)
      (pss_one (ps_fld (pv 0) pe_int rfl))), ?_⟩)
  obtain ⟨p, dx, R, rfl, hS, h1⟩ := h
  walk_at "go"
  exact h1 _ hS.clQ0
def sp_Queue_entries (K : PySem.W.Frag) : Sp := fun vs H Q E => ∃ (p : Addr) (S : QS) (R : List As), vs = [.ref p] ∧ Sep (QueueR K p S :: R) H ∧ ∀ l H', Sep (pt l (.lst (S.turn.map V.int)) :: QueueR K p S :: R) H' → Q (.ref l) H'
theorem ln_Queue_entries : ∀ vs H Q E, sp_Queue_entries K vs H Q E → vs.length = (["self"] : List Str).length := by
  rintro _ _ _ _ ⟨p, S, R, rfl, _⟩
  rfl
theorem sc_Queue_entries : FnScope ["self"] ["self"] (defScope s_Queue_entries) := ⟨rfl, rfl, rfl, by decide +kernel, rfl, by decide +kernel, by decide +kernel⟩
theorem ok_Queue_entries (T : Top K mg) : OkD P w K mg base d_Queue_entries 1 ["self"] (sp_Queue_entries K) := by
  refine okD (df_Queue_entries T) sc_Queue_entries (fun _ _ _ _ _ _ us hl => match us, hl with | [_], _ => rfl) ln_Queue_entries (fun cdv A outer s H vs Q E hr h => ⟨_,
      pss_one (ps_ret (pe_callTy call_listOf (by rfl) (fr_list T) (by decide +kernel) (pa_cons (pe_fld (pv 0) rfl) pa_nil))), ?_⟩)
  obtain ⟨p, S, R, rfl, hS, h1⟩ := h
  obtain ⟨dx, t, l, hS⟩ := hS.opQ
  walk_at "go"
  refine x_listOf hS (sqL hS) fun u H hS => ?_
  exact h1 u _ (Sep.skip (fun _ => Sep.clQ) hS)
/-- a promise that an entry stands in the queue -/
def sp_Queue_need (K : PySem.W.Frag) : Sp := fun vs H Q E => ∃ (p : Addr) (e : Int) (S : QS) (R : List As), vs = [.ref p, .int e] ∧ Sep (QueueR K p S :: R) H ∧
  (e ∈ S.turn → ∀ H', Sep (QueueR K p S :: R) H' → Q .non H') ∧ (e ∉ S.turn → ∀ H', Sep (QueueR K p S :: R) H' → E (.ref (He.ga K "BadEntry")) none H')
theorem ln_Queue_need : ∀ vs H Q E, sp_Queue_need K vs H Q E → vs.length = (["self", "entry"] : List Str).length := by
  rintro _ _ _ _ ⟨p, e, S, R, rfl, _⟩
  rfl
theorem sc_Queue_need : FnScope ["self", "entry"] ["self", "entry"] (defScope s_Queue_need) := ⟨rfl, rfl, rfl, by decide +kernel, rfl, by decide +kernel, by decide +kernel⟩
theorem ok_Queue_need (T : Top K mg) : OkD P w K mg base d_Queue_need 1 ["self", "entry"] (sp_Queue_need K) := by
  refine okD (df_Queue_need T) sc_Queue_need (fun _ _ _ _ _ _ us hl => match us, hl with | [_, _], _ => rfl) ln_Queue_need (fun cdv A outer s H vs Q E hr h => ⟨_,
      pss_one (ps_if (pt_cmpR op_notIn_seq (pv 1) (pe_fld (pv 0) rfl) (by rfl))
       (pss_one (px_raise rfl tkD rfl (gl_BadEntry T) (xc_BadEntry T)))
       (pss_nil)), ?_⟩)
  obtain ⟨p, e, S, R, rfl, hS, h1, h2⟩ := h
  obtain ⟨dx, t, l, hS⟩ := hS.opQ
  walk_at "go"
  refine x_ninI (sqL hS) ?_
  walk_at "s"
  refine x_ndec (fun hn => ?_) (fun hy => ?_)
  · walk_at "s"
    exact h2 hn _ hS.clQ
  · walk_at "s"
    exact h1 hy _ hS.clQ
def QS.tune (S : QS) (e : Int) : Option Str := if 1 ≤ e then S.tunes[(e - 1).toNat]? else none
theorem QS.tune_val (S : QS) (e : Int) : valV (dN 0 S.tunes) (.inl e) = (S.tune e).map V.str := by
  rw [dN_val]
  unfold QS.tune
  by_cases h : 1 ≤ e
  · rw [if_pos (by omega), if_pos h, show (e - ((0 : Nat) : Int) - 1).toNat = (e - 1).toNat by omega]
  · rw [if_neg (by omega), if_neg h] <;> rfl
def sp_Queue_tune (K : PySem.W.Frag) : Sp := fun vs H Q E => ∃ (p : Addr) (e : Int) (S : QS) (R : List As), vs = [.ref p, .int e] ∧ Sep (QueueR K p S :: R) H ∧
  (∀ z, S.tune e = some z → ∀ H', Sep (QueueR K p S :: R) H' → Q (.str z) H') ∧ (S.tune e = none → ∀ H', Sep (QueueR K p S :: R) H' → E (.ref (He.ga K "BadEntry")) none H')
theorem ln_Queue_tune : ∀ vs H Q E, sp_Queue_tune K vs H Q E → vs.length = (["self", "entry"] : List Str).length := by
  rintro _ _ _ _ ⟨p, e, S, R, rfl, _⟩
  rfl
theorem sc_Queue_tune : FnScope ["self", "entry"] ["self", "entry"] (defScope s_Queue_tune) := ⟨rfl, rfl, rfl, by decide +kernel, rfl, by decide +kernel, by decide +kernel⟩
theorem ok_Queue_tune (T : Top K mg) : OkD P w K mg base d_Queue_tune 1 ["self", "entry"] (sp_Queue_tune K) := by
  refine okD (df_Queue_tune T) sc_Queue_tune (fun _ _ _ _ _ _ us hl => match us, hl with | [_, _], _ => rfl) ln_Queue_tune (fun cdv A outer s H vs Q E hr h => ⟨_,
      pss_cons (ps_if (pt_cmp (pc_dnotin (hu_of hr) (pv 1) (pe_fld (pv 0) rfl)))
       (pss_one (px_raise rfl tkD rfl (gl_BadEntry T) (xc_BadEntry T)))
       (pss_nil))
      (pss_one (ps_ret (pe_dget (hu_of hr) (pe_fld (pv 0) rfl) (pv 1) (fun _ _ => rfl)))), ?_⟩)
  obtain ⟨p, e, S, R, rfl, hS, h1, h2⟩ := h
  obtain ⟨dx, t, l, hS⟩ := hS.opQ
  walk_at "go"
  refine y_dni hS ?_
  rw [QS.tune_val]
  walk_at "s"
  cases hz : S.tune e with
  | none =>
    walk_at "s"
    exact h2 hz _ hS.clQ
  | some z =>
    walk_at "s"
    refine x_no rfl ?_
    walk_at "s"
    refine y_dgi hS (by rw [QS.tune_val, hz] <;> rfl) ?_
    exact h1 z hz _ hS.clQ
def okPut (S : QS) (pl : Int) : Prop := 0 ≤ pl ∧ pl ≤ (S.turn.length : Nat) ∧ S.turn.length ≠ 12
instance (S : QS) (pl : Int) : Decidable (okPut S pl) := by unfold okPut; infer_instance
def insAt (xs : List Int) (i : Nat) (y : Int) : List Int := xs.take i ++ [y] ++ xs.drop i
def QS.put (S : QS) (z : Str) (pl : Nat) : QS := ⟨insAt S.turn pl ((S.tunes.length : Nat) + 1 : Int), S.tunes ++ [z]⟩
def sp_Queue_put (K : PySem.W.Frag) : Sp := fun vs H Q E => ∃ (p : Addr) (z : Str) (pl : Int) (S : QS) (R : List As), vs = [.ref p, .str z, .int pl] ∧ S.Fit ∧ Sep (QueueR K p S :: R) H ∧
  (okPut S pl → ∀ H', Sep (QueueR K p (S.put z pl.toNat) :: R) H' → Q (.int ((S.tunes.length : Nat) + 1)) H') ∧ (¬ okPut S pl → ∀ H', Sep (QueueR K p S :: R) H' → E (.ref (He.ga K "BadNumber")) none H')
theorem ln_Queue_put : ∀ vs H Q E, sp_Queue_put K vs H Q E → vs.length = (["self", "name", "place"] : List Str).length := by
  rintro _ _ _ _ ⟨p, z, pl, S, R, rfl, _⟩
  rfl
theorem sc_Queue_put : FnScope ["self", "name", "place"] ["self", "name", "place"] (defScope s_Queue_put) := ⟨rfl, rfl, rfl, by decide +kernel, rfl, by decide +kernel, by decide +kernel⟩
theorem ok_Queue_put (T : Top K mg) : OkD P w K mg base d_Queue_put 1 ["self", "name", "place"] (sp_Queue_put K) := by
  refine okD (df_Queue_put T) sc_Queue_put (fun _ _ _ _ _ _ us hl => match us, hl with | [_, _, _], _ => rfl) ln_Queue_put (fun cdv A outer s H vs Q E hr h => ⟨_,
      pss_cons (ps_if (PW.pt (pw_or (pt_not (pt_chain op_le op_le pe_int (pv 2) (pe_callB call_lenA (by rfl) (fr_len T) (by decide +kernel) (pa_cons (pe_fld (pv 0) rfl) pa_nil)))) (pw_or1 (pt_cmpR (op_eqA hr.units) (pe_callB call_lenA (by rfl) (fr_len T) (by decide +kernel) (pa_cons (pe_fld (pv 0) rfl) pa_nil)) (px_int rfl (gi_MOST_ENTRIES T)) (nomark _)))))
       (pss_one (px_raise rfl tkD rfl (gl_BadNumber T) (xc_BadNumber T)))
       (pss_nil))
      (pss_cons (ps_fld (pv 0) (pe_op op_addA (pe_fld (pv 0) rfl) pe_int) rfl)
      (pss_cons (ps_dput (hu_of hr) (pe_fld (pv 0) rfl) (pe_fld (pv 0) rfl) (pv 1) rfl)
      (pss_cons (ps_expr (pe_bm PySem.F.plainAttrs_list PySem.F.slot_list_insert PySem.F.type_list_insert mt_ins (pe_fld (pv 0) rfl) (pa_cons (pv 2) (pa_cons (pe_fld (pv 0) rfl) pa_nil))))
      (pss_one (ps_ret (pe_fld (pv 0) rfl)))))), ?_⟩)
  obtain ⟨p, z, pl, S, R, rfl, hf, hS, h1, h2⟩ := h
  obtain ⟨dx, t, l, hS⟩ := hS.opQ
  have bad : ¬ okPut S pl → ∀ {H : Hp}, Sep _ H → E (.ref (He.ga K "BadNumber")) none H := fun hb H hS => h2 hb _ (Sep.clQ (R := R) (dx := dx) (t := t) (l := l) hS)
  have e1 : (S.turn.map V.int).length = S.turn.length := List.length_map _
  walk_at "go"
  refine x_dec (fun ha => ?_) (fun ha => ?_)
  · walk_at "s"
    refine x_lenL (sqL hS) ?_
    walk_at "s"
    refine x_ndec (fun hb => ?_) (fun hb => ?_)
    · walk_at "s"
      exact bad (fun z => hb (by rw [e1]; exact z.2.1)) hS
    · walk_at "s"
      refine x_lenL (sqL hS) ?_
      walk_at "s"
      refine x_dec (fun hc => ?_) (fun hc => ?_)
      · walk_at "s"
        exact bad (fun z => z.2.2 (by rw [e1] at hc; omega)) hS
      · walk_at "s"
        rw [e1] at hb hc
        have ok : okPut S pl := ⟨ha, hb, by omega⟩
        have := hf.turn
        have := hf.tunes
        refine y_dpi hS (by rw [dN_length]; omega) fun H hS => ?_
        rw [dN_put] at hS
        walk_at "s"
        refine y_bml (sqL hS) ?_
        walk_at "s"
        refine x_insI hS (by omega) ⟨by omega, by omega⟩ fun H hS => ?_
        walk_at "s"
        exact h1 ok _ (Sep.clQ1 (S := S.put z pl.toNat) (by show _ = ((S.tunes ++ [z]).length : Int); rw [List.length_append]; rfl) hS)
  · walk_at "s"
    exact bad (fun z => ha z.1) hS

def QS.remove (S : QS) (e : Int) : QS := ⟨S.turn.eraseIdx (S.turn.idxOf e), S.tunes⟩
def sp_Queue_remove (K : PySem.W.Frag) : Sp := fun vs H Q E => ∃ (p : Addr) (e : Int) (S : QS) (R : List As), vs = [.ref p, .int e] ∧ Sep (QueueR K p S :: R) H ∧
  (e ∈ S.turn → ∀ H', Sep (QueueR K p (S.remove e) :: R) H' → Q .non H') ∧ (e ∉ S.turn → ∀ H', Sep (QueueR K p S :: R) H' → E (.ref (He.ga K "BadEntry")) none H')
theorem ln_Queue_remove : ∀ vs H Q E, sp_Queue_remove K vs H Q E → vs.length = (["self", "entry"] : List Str).length := by
  rintro _ _ _ _ ⟨p, e, S, R, rfl, _⟩
  rfl
theorem sc_Queue_remove : FnScope ["self", "entry"] ["self", "entry"] (defScope s_Queue_remove) := ⟨rfl, rfl, rfl, by decide +kernel, rfl, by decide +kernel, by decide +kernel⟩
theorem ok_Queue_remove (T : Top K mg) : OkD P w K mg base d_Queue_remove 2 ["self", "entry"] (sp_Queue_remove K) := by
  refine okD (df_Queue_remove T) sc_Queue_remove (fun _ _ _ _ _ _ us hl => match us, hl with | [_, _], _ => rfl) ln_Queue_remove (fun cdv A outer s H vs Q E hr h => ⟨_,
      pss_cons (ps_expr (px_meth (ok_Queue_need T) (hr.mono (by decide)) (pv 0) (cl_Queue T) (me_Queue_need T) (fun σ => paD σ) (pa_cons (pv 1) pa_nil)))
      (pss_one (ps_expr (pe_bm PySem.F.plainAttrs_list PySem.F.slot_list_remove PySem.F.type_list_remove mt_remove (pe_fld (pv 0) rfl) (pa_cons (pv 1) pa_nil)))), ?_⟩)
  obtain ⟨p, e, S, R, rfl, hS, h1, h2⟩ := h
  walk_at "go"
  refine ⟨p, e, S, R, rfl, hS, fun hy H hS => ?_, h2⟩
  obtain ⟨dx, t, l, hS⟩ := hS.opQ
  walk_at "s"
  refine y_bml (sqL hS) ?_
  walk_at "s"
  refine x_remI hS hy fun H hS => ?_
  walk_at "s"
  exact h1 hy _ (Sep.clQ2 (S := S.remove e) hS)
def okMove (S : QS) (pl : Int) : Prop := 0 ≤ pl ∧ pl < (S.turn.length : Nat)
instance (S : QS) (pl : Int) : Decidable (okMove S pl) := by unfold okMove; infer_instance
def QS.move (S : QS) (e : Int) (pl : Nat) : QS := ⟨insAt (S.turn.eraseIdx (S.turn.idxOf e)) pl e, S.tunes⟩
def sp_Queue_move (K : PySem.W.Frag) : Sp := fun vs H Q E => ∃ (p : Addr) (e pl : Int) (S : QS) (R : List As), vs = [.ref p, .int e, .int pl] ∧ S.Fit ∧ Sep (QueueR K p S :: R) H ∧
  (e ∈ S.turn → okMove S pl → ∀ H', Sep (QueueR K p (S.move e pl.toNat) :: R) H' → Q .non H') ∧ (e ∉ S.turn → ∀ H', Sep (QueueR K p S :: R) H' → E (.ref (He.ga K "BadEntry")) none H') ∧
  (e ∈ S.turn → ¬ okMove S pl → ∀ H', Sep (QueueR K p S :: R) H' → E (.ref (He.ga K "BadNumber")) none H')
theorem ln_Queue_move : ∀ vs H Q E, sp_Queue_move K vs H Q E → vs.length = (["self", "entry", "place"] : List Str).length := by
  rintro _ _ _ _ ⟨p, e, pl, S, R, rfl, _⟩
  rfl
theorem sc_Queue_move : FnScope ["self", "entry", "place"] ["self", "entry", "place"] (defScope s_Queue_move) := ⟨rfl, rfl, rfl, by decide +kernel, rfl, by decide +kernel, by decide +kernel⟩
theorem ok_Queue_move (T : Top K mg) : OkD P w K mg base d_Queue_move 2 ["self", "entry", "place"] (sp_Queue_move K) := by
  refine okD (df_Queue_move T) sc_Queue_move (fun _ _ _ _ _ _ us hl => match us, hl with | [_, _, _], _ => rfl) ln_Queue_move (fun cdv A outer s H vs Q E hr h => ⟨_,
      pss_cons (ps_expr (px_meth (ok_Queue_need T) (hr.mono (by decide)) (pv 0) (cl_Queue T) (me_Queue_need T) (fun σ => paD σ) (pa_cons (pv 1) pa_nil)))
      (pss_cons (ps_if (pt_not (pt_chain op_le op_lt pe_int (pv 2) (pe_callB call_lenA (by rfl) (fr_len T) (by decide +kernel) (pa_cons (pe_fld (pv 0) rfl) pa_nil))))
       (pss_one (px_raise rfl tkD rfl (gl_BadNumber T) (xc_BadNumber T)))
       (pss_nil))
      (pss_cons (ps_expr (pe_bm PySem.F.plainAttrs_list PySem.F.slot_list_remove PySem.F.type_list_remove mt_remove (pe_fld (pv 0) rfl) (pa_cons (pv 1) pa_nil)))
      (pss_one (ps_expr (pe_bm PySem.F.plainAttrs_list PySem.F.slot_list_insert PySem.F.type_list_insert mt_ins (pe_fld (pv 0) rfl) (pa_cons (pv 2) (pa_cons (pv 1) pa_nil))))))), ?_⟩)
  obtain ⟨p, e, pl, S, R, rfl, hf, hS, h1, h2, h3⟩ := h
  walk_at "go"
  refine ⟨p, e, S, R, rfl, hS, fun hy H hS => ?_, h2⟩
  obtain ⟨dx, t, l, hS⟩ := hS.opQ
  have e1 : (S.turn.map V.int).length = S.turn.length := List.length_map _
  have := hf.turn
  walk_at "s"
  refine x_dec (fun ha => ?_) (fun ha => ?_)
  · walk_at "s"
    refine x_lenL (sqL hS) ?_
    walk_at "s"
    refine x_ndec (fun hb => ?_) (fun hb => ?_)
    · walk_at "s"
      exact h3 hy (fun z => hb (by rw [e1]; exact z.2)) _ hS.clQ
    · walk_at "s"
      rw [e1] at hb
      refine y_bml (sqL hS) ?_
      walk_at "s"
      refine x_remI hS hy fun H hS => ?_
      walk_at "s"
      refine y_bml (sqL hS) ?_
      walk_at "s"
      have := List.length_eraseIdx_le S.turn (S.turn.idxOf e)
      refine x_insI hS (by omega) ⟨by omega, by omega⟩ fun H hS => ?_
      walk_at "s"
      exact h1 hy ⟨ha, hb⟩ _ (Sep.clQ2 (S := S.move e pl.toNat) hS)
  · walk_at "s"
    exact h3 hy (fun z => ha z.1) _ hS.clQ
def sp_Queue_place (K : PySem.W.Frag) : Sp := fun vs H Q E => ∃ (p : Addr) (e : Int) (S : QS) (R : List As), vs = [.ref p, .int e] ∧ Sep (QueueR K p S :: R) H ∧
  (e ∈ S.turn → ∀ H', Sep (QueueR K p S :: R) H' → Q (.int (S.turn.idxOf e : Nat)) H') ∧ (e ∉ S.turn → ∀ H', Sep (QueueR K p S :: R) H' → E (.ref (He.ga K "BadEntry")) none H')
theorem ln_Queue_place : ∀ vs H Q E, sp_Queue_place K vs H Q E → vs.length = (["self", "entry"] : List Str).length := by
  rintro _ _ _ _ ⟨p, e, S, R, rfl, _⟩
  rfl
theorem sc_Queue_place : FnScope ["self", "entry"] ["self", "entry"] (defScope s_Queue_place) := ⟨rfl, rfl, rfl, by decide +kernel, rfl, by decide +kernel, by decide +kernel⟩
theorem ok_Queue_place (T : Top K mg) : OkD P w K mg base d_Queue_place 2 ["self", "entry"] (sp_Queue_place K) := by
  refine okD (df_Queue_place T) sc_Queue_place (fun _ _ _ _ _ _ us hl => match us, hl with | [_, _], _ => rfl) ln_Queue_place (fun cdv A outer s H vs Q E hr h => ⟨_,
      pss_cons (ps_expr (px_meth (ok_Queue_need T) (hr.mono (by decide)) (pv 0) (cl_Queue T) (me_Queue_need T) (fun σ => paD σ) (pa_cons (pv 1) pa_nil)))
      (pss_one (ps_ret (pe_bm PySem.F.plainAttrs_list PySem.F.slot_list_index PySem.F.type_list_index mt_index (pe_fld (pv 0) rfl) (pa_cons (pv 1) pa_nil)))), ?_⟩)
  obtain ⟨p, e, S, R, rfl, hS, h1, h2⟩ := h
  walk_at "go"
  refine ⟨p, e, S, R, rfl, hS, fun hy H hS => ?_, h2⟩
  obtain ⟨dx, t, l, hS⟩ := hS.opQ
  walk_at "s"
  refine y_bml (sqL hS) ?_
  walk_at "s"
  refine x_ixI (sqL hS) hy ?_
  exact h1 hy _ hS.clQ

end
end TR

set_option Elab.async false
set_option linter.all false
set_option maxRecDepth 100000
set_option maxHeartbeats 4000000
/-! .. -/
set_option hygiene false
local macro_rules | `(tactic| walk_at "s1") => `(tactic| first
  | (with_reducible refine x_seq ?_)
  | (with_reducible refine x_asg ?_)
  | (with_reducible refine y_asg ?_)
  | (with_reducible refine x_name ?_)
  | (with_reducible refine x_ifS ?_)
  | (with_reducible refine y_ifS ?_)
  | (with_reducible refine x_ret ?_)
  | (with_reducible refine x_retN ?_)
  | (with_reducible refine x_drop ?_)
  | (with_reducible refine y_drop ?_)
  | (with_reducible refine x_next ?_)
  | (with_reducible refine x_cont ?_)
  | (with_reducible refine x_test ?_)
  | (with_reducible refine x_tB ?_)
  | (with_reducible refine y_test ?_)
  | (with_reducible refine x_not ?_)
  | (with_reducible refine y_not ?_)
  | (with_reducible refine x_and ?_)
  | (with_reducible refine y_and ?_)
  | (with_reducible refine x_or ?_)
  | (with_reducible refine y_or ?_)
  | (with_reducible refine x_chain ?_)
  | (with_reducible refine y_ch1 ?_)
  | (with_reducible refine y_ch2 ?_)
  | (with_reducible refine y_ch3 ?_)
  | (with_reducible refine x_andV ?_)
  | (with_reducible refine y_andV ?_)
  | (with_reducible refine x_orV ?_)
  | (with_reducible refine y_orV ?_)
  | (with_reducible refine x_notV ?_)
  | (with_reducible refine y_notV ?_)
  | (with_reducible refine x_if ?_)
  | (with_reducible refine y_ifE ?_)
  | (with_reducible refine x_op ?_)
  | (with_reducible refine y_op1 ?_)
  | (with_reducible refine y_op2 ?_)
  | (with_reducible refine x_un ?_)
  | (with_reducible refine y_neg ?_)
  | (with_reducible refine x_c ?_)
  | (with_reducible refine x_fld ?_)
  | (with_reducible refine x_sfld ?_)
  | (with_reducible refine y_sf ?_)
  | (with_reducible refine x_nil ?_)
  | (with_reducible refine x_cons ?_)
  | (with_reducible refine y_c1 ?_)
  | (with_reducible refine y_c2 ?_)
  | (with_reducible refine x_callS ?_)
  | (with_reducible refine y_sp ?_)
  | (with_reducible refine x_meth ?_)
  | (with_reducible refine y_mt2 ?_)
  | (with_reducible refine x_make ?_)
  | (with_reducible refine y_mq ?_)
  | (with_reducible refine x_cb ?_)
  | (with_reducible refine y_cb ?_)
  | (with_reducible refine x_bm ?_)
  | (with_reducible refine y_bq ?_)
  | (with_reducible refine x_bm0 ?_)
  | (with_reducible refine x_rz ?_)
  | (with_reducible refine x_lst ?_)
  | (with_reducible refine x_tup ?_)
  | (with_reducible refine x_sub ?_)
  | (with_reducible refine y_sb1 ?_)
  | (with_reducible refine x_for1 ?_)
  | (with_reducible refine x_forL ?_)
  | (with_reducible refine x_for3 ?_)
  | (with_reducible refine x_forT ?_)
  | (with_reducible refine y_body ?_)
  | (with_reducible refine x_tru ?_)
  | (with_reducible refine y_trub ?_)
  | (with_reducible refine y_trui ?_)
  | (with_reducible refine y_trun ?_)
  | (with_reducible refine x_gcons ?_)
  | (with_reducible refine y_g ?_)
  | (with_reducible refine x_gnil ?_)
  | (with_reducible refine x_rev ?_)
  | (with_reducible refine x_sl ?_)
  | (with_reducible refine y_sl1 ?_)
  | (with_reducible refine y_sl2 ?_)
  | (with_reducible refine y_sl3 ?_)
  | (with_reducible refine x_nop ?_)
  | (with_reducible refine x_part ?_)
  | (with_reducible refine y_part ?_)
  | (with_reducible refine x_lrange1 ?_)
  | (with_reducible refine x_lrange2 ?_)
  | (with_reducible refine y_lr2 ?_)
  | (with_reducible refine x_addI ?_)
  | (with_reducible refine x_dget ?_)
  | (with_reducible refine y_dg1 ?_)
  | (with_reducible refine x_din ?_)
  | (with_reducible refine y_di1 ?_)
  | (with_reducible refine x_dnotin ?_)
  | (with_reducible refine y_dn1 ?_)
  | (with_reducible refine x_dput ?_)
  | (with_reducible refine y_dp1 ?_)
  | (with_reducible refine y_dp2 ?_)
  | (with_reducible refine x_dnew hS (fun u H hS => ?_))
  | (with_reducible refine x_disp hS (fun u H hS => ?_))
  | (with_reducible refine x_prs ?_)
  | (with_reducible refine y_pa ?_)
  | (with_reducible refine y_pb ?_)
  | (with_reducible refine x_prn ?_)
  | (with_reducible refine y_pc ?_)
  | (with_reducible refine y_dgo hS ?_)
  | (with_reducible refine y_dpo hS (fun H hS => ?_))
  | ((with_reducible refine x_try (fun pn xe tk po => ?_)); (try dsimp only [cxOf]))
  | (with_reducible refine x_lcT ?_)
  | (with_reducible refine x_lcL ?_)
  | (with_reducible refine y_tt ?_)
  | (with_reducible refine x_yes' ?_)
  | ((with_reducible refine' y_lcb ?h1 ?_); (case h1 => exact rfl))
  | (with_reducible refine x_I0 ?_)
  | (with_reducible refine x_eqI ?_)
  | (with_reducible refine x_neI ?_)
  | (with_reducible refine x_isN ?_)
  | (with_reducible refine x_notN ?_)
  | (with_reducible refine x_tt ?_)
  | (with_reducible refine x_ff ?_)
  | (with_reducible refine x_nt ?_)
  | (with_reducible refine x_nf ?_)
  | (with_reducible refine y_fld hS ?_)
  | (with_reducible refine y_meth hS ?_)
  | (with_reducible refine y_put hS (fun H hS => ?_))
  | ((with_reducible refine' x_var ?h1 ?_); (case h1 => exact rfl))
  | (with_reducible refine y_lst hS (by first | decide | (show _ ≤ sizeLine; simp only [List.length_cons, List.length_nil]; decide)) (fun u H hS => ?_))
  | (with_reducible refine y_tup hS (by first | decide | (show _ ≤ sizeLine; simp only [List.length_cons, List.length_nil]; decide)) (fun u H hS => ?_)))
local macro_rules | `(tactic| walk_at "s") => `(tactic| repeat walk_at "s1")
local macro_rules | `(tactic| walk_at "go") => `(tactic| (dsimp only [cxOf]; repeat walk_at "s1"))

namespace TR
open PySem PySem.Spec PyProof.Rows L2
section
variable {P : Program} {w : World} {K : PySem.W.Frag} {mg : Str → Option Value} {base : Heap}
/-! ### orders -/
/-- things mixed, of numbers -/
def mixN (n : Int) (ns : List Int) : List Int := (mixd n (ns.map V.int)).2.map fun v => match v with
  | .int i => i
  | _ => 0
theorem mixN_eq (n : Int) (ns : List Int) : (mixd n (ns.map V.int)).2 = (mixN n ns).map V.int := by
  obtain ⟨js, h, _⟩ := perm_ints (mixd_perm n (ns.map V.int))
  unfold mixN
  rw [h, List.map_map, List.map_map]
  exact (List.map_congr_left fun _ _ => rfl).symm
theorem mixN_perm (n : Int) (ns : List Int) : (mixN n ns).Perm ns := by
  obtain ⟨js, h, hp⟩ := perm_ints (mixd_perm n (ns.map V.int))
  have e : mixN n ns = js := by
    unfold mixN
    rw [h, List.map_map]
    exact (List.map_congr_left fun _ _ => rfl).trans (List.map_id js)
  rw [e]
  exact hp
def mixSd (n : Int) (ns : List Int) : Int := (mixd n (ns.map V.int)).1
theorem mixSd_ok {n : Int} (h : okSeed n) (ns : List Int) : okSeed (mixSd n ns) := mixd_ok h _
structure OS where
  q : QS
  d : Int
  mx : Bool
  ag : Str
  deck : List Int
  gone : Bool
  beh : Option Int
structure OS.Ok (S : OS) : Prop where
  nd : S.q.turn.Nodup
  dnd : S.deck.Nodup
  pos : ∀ e ∈ S.q.turn, 1 ≤ e ∧ e ≤ (S.q.tunes.length : Nat)
  sub : ∀ e ∈ S.deck, e ∈ S.q.turn
  len : S.q.turn.length ≤ 12
  tl : S.q.tunes.length ≤ 1000
  seed : okSeed S.d
  bh : ∀ b, S.gone = true → S.beh = some b → b ∈ S.q.turn
theorem OS.Ok.fit {S : OS} (h : S.Ok) : S.q.Fit := ⟨by have := h.len; omega, by have := h.tl; omega⟩
theorem nodup_len : ∀ {xs ys : List Int}, xs.Nodup → (∀ e ∈ xs, e ∈ ys) → xs.length ≤ ys.length
  | [], _, _, _ => Nat.zero_le _
  | x :: r, ys, h, hs => by
    obtain ⟨h1, h2⟩ := List.nodup_cons.mp h
    have hx := hs x List.mem_cons_self
    have ih := nodup_len h2 (ys := ys.erase x) fun e he => (List.mem_erase_of_ne fun z => h1 (by rw [← z]; exact he)).mpr (hs e (List.mem_cons_of_mem _ he))
    rw [List.length_erase_of_mem hx] at ih
    have := List.length_pos_of_mem hx
    rw [List.length_cons]
    omega
theorem OS.Ok.dl {S : OS} (h : S.Ok) : S.deck.length ≤ 12 := Nat.le_trans (nodup_len h.dnd h.sub) h.len
def OrderR (K : PySem.W.Frag) (p : Addr) (S : OS) : As := ex fun dx => ex fun q => ex fun c => ex fun k =>
  all [pt p (.ins (He.ga K "Order") dx (nmOrder.zip [.ref q, .ref c, .bl S.mx, .str S.ag, .ref k, .bl S.gone, oV S.beh])), QueueR K q S.q, DiceR K c S.d, pt k (.lst (S.deck.map V.int))]
instance {K : PySem.W.Frag} {p : Addr} {S : OS} : Kys (OrderR K p S) p := ⟨trivial⟩
instance {K : PySem.W.Frag} {p : Addr} {S : OS} : IsOb (OrderR K p S) p (He.ga K "Order") nmOrder := ⟨fun h ⟨dx, q, c, k, a⟩ => ⟨dx, _, Sep.get a⟩⟩
theorem Sep.opO {p : Addr} {S : OS} {R : List As} {H : Hp} (h : Sep (OrderR K p S :: R) H) : ∃ dx q c k, Sep (pt p (.ins (He.ga K "Order") dx (nmOrder.zip [.ref q, .ref c, .bl S.mx, .str S.ag, .ref k, .bl S.gone, oV S.beh])) :: QueueR K q S.q :: DiceR K c S.d :: pt k (.lst (S.deck.map V.int)) :: R) H := by
  obtain ⟨dx, h⟩ := h.ex
  obtain ⟨q, h⟩ := h.ex
  obtain ⟨c, h⟩ := h.ex
  obtain ⟨k, h⟩ := h.ex
  exact ⟨dx, q, c, k, h.flat⟩
theorem Sep.clO {p dx q c k : Addr} {S : OS} {R : List As} {H : Hp} (h : Sep (pt p (.ins (He.ga K "Order") dx (nmOrder.zip [.ref q, .ref c, .bl S.mx, .str S.ag, .ref k, .bl S.gone, oV S.beh])) :: QueueR K q S.q :: DiceR K c S.d :: pt k (.lst (S.deck.map V.int)) :: R) H) : Sep (OrderR K p S :: R) H :=
  Sep.exi dx (Sep.exi q (Sep.exi c (Sep.exi k (Sep.wrap h))))
/-- closed, by the parts named -/
theorem Sep.clO' (S : OS) (dx q c k : Addr) {p : Addr} {R L : List As} {H : Hp} (h : Sep L H) (e : En L (pt p (.ins (He.ga K "Order") dx (nmOrder.zip [.ref q, .ref c, .bl S.mx, .str S.ag, .ref k, .bl S.gone, oV S.beh])) :: QueueR K q S.q :: DiceR K c S.d :: pt k (.lst (S.deck.map V.int)) :: R)) : Sep (OrderR K p S :: R) H := Sep.clO (h.of e)
def OS.new (s : Int) : OS := ⟨⟨[], []⟩, s, false, "none", [], false, none⟩
def sp_Order_init (K : PySem.W.Frag) : Sp := fun vs H Q E => ∃ (p dx : Addr) (s : Int) (R : List As), vs = [.ref p, .int s] ∧ Sep (pt p (.ins (He.ga K "Order") dx []) :: R) H ∧
  (okSeed s → ∀ H', Sep (OrderR K p (OS.new s) :: R) H' → Q .non H') ∧ (¬ okSeed s → ∀ H', Sep R H' → E (.ref (He.ga K "BadNumber")) none H')
theorem ln_Order_init : ∀ vs H Q E, sp_Order_init K vs H Q E → vs.length = (["self", "seed"] : List Str).length := by
  rintro _ _ _ _ ⟨p, dx, s, R, rfl, _⟩
  rfl
theorem sc_Order_init : FnScope ["self", "seed"] ["self", "seed"] (defScope s_Order_init) := ⟨rfl, rfl, rfl, by decide +kernel, rfl, by decide +kernel, by decide +kernel⟩
theorem ok_Order_init (T : Top K mg) : OkD P w K mg base d_Order_init 3 ["self", "seed"] (sp_Order_init K) := by
  refine okD (df_Order_init T) sc_Order_init (fun _ _ _ _ _ _ us hl => match us, hl with | [_, _], _ => rfl) ln_Order_init (fun cdv A outer s H vs Q E hr h => ⟨_,
      pss_cons (ps_fld (pv 0) (px_make0 (ok_Queue_init T) (hr.mono (by decide)) (mk_Queue T) rfl (gl_Queue T) (fun σ => paD σ)) rfl)
      (pss_cons (ps_fld (pv 0) (px_make (ok_Dice_init T) (hr.mono (by decide)) (mk_Dice T) rfl (gl_Dice T) (fun σ => paD σ) (pa_cons (pv 1) pa_nil)) rfl)
      (pss_cons (ps_fld (pv 0) pe_bl rfl)
      (pss_cons (ps_fld (pv 0) pe_str rfl)
      (pss_cons (ps_fld (pv 0) (pe_lst pa_nil) rfl)
      (pss_cons (ps_fld (pv 0) pe_bl rfl)
      (pss_one (ps_fld (pv 0) pe_non rfl))))))), ?_⟩)
  obtain ⟨p, dx, s, R, rfl, hS, h1, h2⟩ := h
  walk_at "go"
  refine y_mk hS fun q dx2 H hS => ?_
  refine ⟨q, dx2, _, rfl, hS.own q, fun H hS => ?_⟩
  walk_at "s"
  refine y_mk hS fun c dx3 H hS => ?_
  refine ⟨c, dx3, s, _, rfl, hS.own c, fun ok H hS => ?_, fun no H hS => ?_⟩
  · walk_at "s"
    exact h1 ok _ (Sep.clO' (OS.new s) dx q c u hS (by
      show En _ (pt p (.ins (He.ga K "Order") dx (nmOrder.zip [.ref q, .ref c, .bl false, .str "none", .ref u, .bl false, .non])) :: QueueR K q ⟨[], []⟩ :: DiceR K c s :: pt u (.lst []) :: R)
      repeat (first | exact En.refl | exact En.nil | refine En.cons ?_ | refine En.drop ?_)))
  · exact h2 no _ (hS.of (by repeat (first | exact En.refl | exact En.nil | refine En.cons ?_ | refine En.drop ?_)))
def okWord (w : Str) : Prop := w = "none" ∨ w = "all" ∨ w = "one"
instance (w : Str) : Decidable (okWord w) := by unfold okWord; infer_instance
theorem in_word (z : Str) : inV (.str z) [.str "none", .str "all", .str "one"] = decide (okWord z) := by
  unfold inV
  show ((("none" : Str) == z) || ((("all" : Str) == z) || ((("one" : Str) == z) || false))) = _
  by_cases h1 : z = "none"
  · subst h1; rfl
  by_cases h2 : z = "all"
  · subst h2; rfl
  by_cases h3 : z = "one"
  · subst h3; rfl
  have e : decide (okWord z) = false := decide_eq_false (by rintro (h | h | h) <;> contradiction)
  rw [e, beq_eq_false_iff_ne.mpr (Ne.symm h1), beq_eq_false_iff_ne.mpr (Ne.symm h2), beq_eq_false_iff_ne.mpr (Ne.symm h3)] <;> rfl
def sp_Order_set_again (K : PySem.W.Frag) : Sp := fun vs H Q E => ∃ (p : Addr) (z : Str) (S : OS) (R : List As), vs = [.ref p, .str z] ∧ Sep (OrderR K p S :: R) H ∧
  (okWord z → ∀ H', Sep (OrderR K p { S with ag := z } :: R) H' → Q .non H') ∧ (¬ okWord z → ∀ H', Sep (OrderR K p S :: R) H' → E (.ref (He.ga K "BadWord")) none H')
theorem ln_Order_set_again : ∀ vs H Q E, sp_Order_set_again K vs H Q E → vs.length = (["self", "word"] : List Str).length := by
  rintro _ _ _ _ ⟨p, z, S, R, rfl, _⟩
  rfl
theorem sc_Order_set_again : FnScope ["self", "word"] ["self", "word"] (defScope s_Order_set_again) := ⟨rfl, rfl, rfl, by decide +kernel, rfl, by decide +kernel, by decide +kernel⟩
theorem ok_Order_set_again (T : Top K mg) : OkD P w K mg base d_Order_set_again 1 ["self", "word"] (sp_Order_set_again K) := by
  refine okD (df_Order_set_again T) sc_Order_set_again (fun _ _ _ _ _ _ us hl => match us, hl with | [_, _], _ => rfl) ln_Order_set_again (fun cdv A outer s H vs Q E hr h => ⟨_,
      pss_cons (ps_if (pt_cmpR op_notIn_seq (pv 1) (px_ref rfl (gl_REPEATS T)) (by rfl))
       (pss_one (px_raise rfl tkD rfl (gl_BadWord T) (xc_BadWord T)))
       (pss_nil))
      (pss_one (ps_fld (pv 0) (pv 1) rfl)), ?_⟩)
  obtain ⟨p, z, S, R, rfl, hS, h1, h2⟩ := h
  obtain ⟨dx, q, c, k, hS⟩ := hS.opO
  walk_at "go"
  refine ⟨_, [.str "none", .str "all", .str "one"], rfl, .inr (tu_REPEATS T _), rfl, rfl, ?_⟩
  rw [in_word]
  walk_at "s"
  refine x_ndec (fun hn => ?_) (fun hy => ?_)
  · walk_at "s"
    exact h2 hn _ hS.clO
  · walk_at "s"
    exact h1 hy _ (Sep.clO' ({ S with ag := z }) dx q c k hS (by (try simp only [List.map_nil]); repeat (first | exact En.refl | exact En.nil | refine En.cons ?_ | refine En.drop ?_)))
/-- mixed or not -/
def OS.rest (S : OS) (e : Option Int) : List Int := S.q.turn.filter fun o => !decide (some o = e)
def OS.setMixed (S : OS) (b : Bool) (e : Option Int) : OS := match b, S.mx with
  | true, false => ⟨S.q, mixSd S.d (S.rest e), true, S.ag, mixN S.d (S.rest e), S.gone, S.beh⟩
  | true, true => S
  | false, _ => ⟨S.q, S.d, false, S.ag, [], S.gone, S.beh⟩
theorem OS.mx_eq {S : OS} {b : Bool} (h : S.mx = b) : S = ⟨S.q, S.d, b, S.ag, S.deck, S.gone, S.beh⟩ := by
  cases S
  cases h
  rfl
theorem rest_len {S : OS} (h : S.Ok) (e : Option Int) : (S.rest e).length ≤ 12 := Nat.le_trans (List.length_filter_le _ _) h.len
def sp_Order_set_mixed (K : PySem.W.Frag) : Sp := fun vs H Q E => ∃ (p : Addr) (b : Bool) (e : Option Int) (S : OS) (R : List As), vs = [.ref p, .bl b, oV e] ∧ S.Ok ∧ Sep (OrderR K p S :: R) H ∧
  (∀ H', Sep (OrderR K p (S.setMixed b e) :: R) H' → Q .non H')
theorem ln_Order_set_mixed : ∀ vs H Q E, sp_Order_set_mixed K vs H Q E → vs.length = (["self", "is_mixed", "entry"] : List Str).length := by
  rintro _ _ _ _ ⟨p, b, e, S, R, rfl, _⟩
  rfl
theorem sc_Order_set_mixed : FnScope ["self", "is_mixed", "entry", "one"] ["self", "is_mixed", "entry"] (defScope s_Order_set_mixed) := ⟨rfl, rfl, rfl, by decide +kernel, rfl, by decide +kernel, by decide +kernel⟩
theorem ok_Order_set_mixed (T : Top K mg) : OkD P w K mg base d_Order_set_mixed 3 ["self", "is_mixed", "entry"] (sp_Order_set_mixed K) := by
  refine okD (df_Order_set_mixed T) sc_Order_set_mixed (fun _ _ _ _ _ _ us hl => match us, hl with | [_, _, _], _ => rfl) ln_Order_set_mixed (fun cdv A outer s H vs Q E hr h => ⟨_,
      pss_cons (ps_if (PW.pt (pw_and (px_truth (pv 1) (by intro _; rfl)) (pw_and1 (pt_not (px_truth (pe_fld (pv 0) rfl) (by intro _; rfl))))))
       (pss_one (ps_fld (pv 0) (px_call (ok_mixed T) (hr.mono (by decide)) rfl (gl_mixed T) (fun σ => paD σ) (pa_cons (pe_fld (pv 0) rfl) (pa_cons (pe_lc (own := [("one", 3)]) (g := gName 3) (by rfl) sc_Order_set_mixed.nd (pi_list (px_meth0 (ok_Queue_entries T) (hr.mono (by decide)) (pe_fld (pv 0) rfl) (cl_Queue T) (me_Queue_entries T) (fun σ => paD σ))) (blkOk_by (own := [("one", 3)]) (N := ["self", "is_mixed", "entry", "one"]) (sc := defScope s_Order_set_mixed) (by decide +kernel)) (fun _ _ _ _ _ => pg_name (i := 3) sc_Order_set_mixed.nd rfl (Or.inl rfl)) (fun _ _ _ _ _ => pts_one (pt_cmpR op_ne (pv 3) (pv 2) (nomark _))) (fun _ _ _ _ _ => pv 3)) pa_nil))) rfl))
       (pss_nil))
      (pss_cons (ps_if (pt_not (px_truth (pv 1) (by intro _; rfl)))
       (pss_one (ps_fld (pv 0) (pe_lst pa_nil) rfl))
       (pss_nil))
      (pss_one (ps_fld (pv 0) (pv 1) rfl))), ?_⟩)
  obtain ⟨p, b, e, S, R, rfl, ho, hS, h1⟩ := h
  obtain ⟨dx, q, c, k, hS⟩ := hS.opO
  have hl := ho.len
  walk_at "go"
  cases b with
  | true =>
    walk_at "s"
    cases hm : S.mx with
    | false =>
      have e1 : S.setMixed true e = ⟨S.q, mixSd S.d (S.rest e), true, S.ag, mixN S.d (S.rest e), S.gone, S.beh⟩ := by unfold OS.setMixed; rw [hm]
      rw [e1] at h1
      rw [hm] at hS
      walk_at "s"
      refine ⟨q, S.q, _, rfl, hS.own q, fun l H hS => ?_⟩
      walk_at "s"
      refine y_lcF (fun o => !decide (some o = e)) hS (by omega) (fun D acc x H hl hS => ?_) (fun l2 H hS => ?_)
      · walk_at "s"
        refine x_neJ ?_
        walk_at "s"
        refine x_ndec (fun hn => ?_) (fun hy => ?_)
        · walk_at "s"
          refine y_el hS (by rw [List.length_map]; omega) fun H hS => ?_
          rw [if_pos (by rw [decide_eq_false hn] <;> rfl), List.map_append]
          exact hS
        · rw [if_neg (by rw [decide_eq_true hy]; intro z; cases z)]
          exact hS
      · replace hS : Sep (pt l2 (.lst ((S.rest e).map V.int)) :: _) H := hS
        have hr := rest_len ho e
        walk_at "s"
        refine ⟨c, l2, S.d, (S.rest e).map V.int, _, rfl, ho.seed, by rw [List.length_map]; omega, hS.own2 c l2, fun l3 H hS => ?_⟩
        rw [mixN_eq] at hS
        replace hS : Sep (pt l3 (.lst ((mixN S.d (S.rest e)).map V.int)) :: DiceR K c (mixSd S.d (S.rest e)) :: _) H := hS
        walk_at "s"
        exact h1 _ (Sep.clO' (⟨S.q, mixSd S.d (S.rest e), true, S.ag, mixN S.d (S.rest e), S.gone, S.beh⟩) dx q c l3 hS (by (try simp only [List.map_nil]); repeat (first | exact En.refl | exact En.nil | refine En.cons ?_ | refine En.drop ?_)))
    | true =>
      have e1 : S.setMixed true e = ⟨S.q, S.d, true, S.ag, S.deck, S.gone, S.beh⟩ := by
        unfold OS.setMixed
        rw [hm]
        exact S.mx_eq hm
      rw [e1] at h1
      rw [hm] at hS
      walk_at "s"
      exact h1 _ (Sep.clO' (⟨S.q, S.d, true, S.ag, S.deck, S.gone, S.beh⟩) dx q c k hS (by (try simp only [List.map_nil]); repeat (first | exact En.refl | exact En.nil | refine En.cons ?_ | refine En.drop ?_)))
  | false =>
    walk_at "s"
    rename Addr => k2
    exact h1 _ (Sep.clO' (⟨S.q, S.d, false, S.ag, [], S.gone, S.beh⟩) dx q c k2 hS (by (try simp only [List.map_nil]); repeat (first | exact En.refl | exact En.nil | refine En.cons ?_ | refine En.drop ?_)))

end
end TR

set_option Elab.async false
set_option linter.all false
set_option maxRecDepth 100000
set_option maxHeartbeats 4000000
/-! .. -/

namespace TR
open PySem PySem.Spec PyProof.Rows L2
section
variable {P : Program} {w : World} {K : PySem.W.Frag} {mg : Str → Option Value} {base : Heap}
/-- an entry comes -/
def OS.put (S : OS) (z : Str) (pl : Nat) : OS := match S.mx with
  | true => ⟨S.q.put z pl, dnext S.d, true, S.ag, insAt S.deck (dval S.d ((S.deck.length : Nat) + 1)).toNat ((S.q.tunes.length : Nat) + 1), S.gone, S.beh⟩
  | false => ⟨S.q.put z pl, S.d, false, S.ag, S.deck, S.gone, S.beh⟩
def sp_Order_put (K : PySem.W.Frag) : Sp := fun vs H Q E => ∃ (p : Addr) (z : Str) (pl : Int) (S : OS) (R : List As), vs = [.ref p, .str z, .int pl] ∧ S.Ok ∧ Sep (OrderR K p S :: R) H ∧
  (okPut S.q pl → ∀ H', Sep (OrderR K p (S.put z pl.toNat) :: R) H' → Q (.int ((S.q.tunes.length : Nat) + 1)) H') ∧ (¬ okPut S.q pl → ∀ H', Sep (OrderR K p S :: R) H' → E (.ref (He.ga K "BadNumber")) none H')
theorem ln_Order_put : ∀ vs H Q E, sp_Order_put K vs H Q E → vs.length = (["self", "name", "place"] : List Str).length := by
  rintro _ _ _ _ ⟨p, z, pl, S, R, rfl, _⟩
  rfl
theorem sc_Order_put : FnScope ["self", "name", "place", "found"] ["self", "name", "place"] (defScope s_Order_put) := ⟨rfl, rfl, rfl, by decide +kernel, rfl, by decide +kernel, by decide +kernel⟩
theorem ok_Order_put (T : Top K mg) : OkD P w K mg base d_Order_put 2 ["self", "name", "place"] (sp_Order_put K) := by
  refine okD (df_Order_put T) sc_Order_put (fun _ _ _ _ _ _ us hl => match us, hl with | [_, _, _], _ => rfl) ln_Order_put (fun cdv A outer s H vs Q E hr h => ⟨_,
      pss_cons (ps_set (i := 3) sc_Order_put.nd rfl (Or.inl rfl) (px_meth (ok_Queue_put T) (hr.mono (by decide)) (pe_fld (pv 0) rfl) (cl_Queue T) (me_Queue_put T) (fun σ => paD σ) (pa_cons (pv 1) (pa_cons (pv 2) pa_nil))))
      (pss_cons (ps_if (px_truth (pe_fld (pv 0) rfl) (by intro _; rfl))
       (pss_one (ps_expr (pe_bm PySem.F.plainAttrs_list PySem.F.slot_list_insert PySem.F.type_list_insert mt_ins (pe_fld (pv 0) rfl) (pa_cons (px_meth (ok_Dice_below T) (hr.mono (by decide)) (pe_fld (pv 0) rfl) (cl_Dice T) (me_Dice_below T) (fun σ => paD σ) (pa_cons (pe_op op_addA (pe_callB call_lenA (by rfl) (fr_len T) (by decide +kernel) (pa_cons (pe_fld (pv 0) rfl) pa_nil)) pe_int) pa_nil)) (pa_cons (pv 3) pa_nil)))))
       (pss_nil))
      (pss_one (ps_ret (pv 3)))), ?_⟩)
  obtain ⟨p, z, pl, S, R, rfl, ho, hS, h1, h2⟩ := h
  obtain ⟨dx, q, c, k, hS⟩ := hS.opO
  have hd := ho.dl
  have ed : (S.deck.map V.int).length = S.deck.length := List.length_map _
  walk_at "go"
  refine ⟨q, z, pl, S.q, _, rfl, ho.fit, hS.own q, fun ok H hS => ?_, fun no H hS => h2 no _ (Sep.clO' (S) dx q c k hS (by (try simp only [List.map_nil]); repeat (first | exact En.refl | exact En.nil | refine En.cons ?_ | refine En.drop ?_)))⟩
  walk_at "s"
  cases hm : S.mx with
  | true =>
    have e1 : S.put z pl.toNat = ⟨S.q.put z pl.toNat, dnext S.d, true, S.ag, insAt S.deck (dval S.d ((S.deck.length : Nat) + 1)).toNat ((S.q.tunes.length : Nat) + 1), S.gone, S.beh⟩ := by unfold OS.put; rw [hm]
    rw [e1] at h1
    rw [hm] at hS
    walk_at "s"
    refine y_bml (sqL hS) ?_
    walk_at "s"
    refine x_lenL (sqL hS) ?_
    walk_at "s"
    rw [ed]
    refine ⟨c, S.d, _, _, rfl, ho.seed, hS.own c, fun _ H hS => ?_, fun no => absurd (show okMany _ from ⟨by omega, by omega⟩) no⟩
    have dv := dval_ok S.d (m := (S.deck.length : Nat) + 1) (by omega)
    walk_at "s"
    refine x_insI hS (by omega) ⟨by omega, by omega⟩ fun H hS => ?_
    replace hS : Sep (pt k (.lst ((insAt S.deck (dval S.d ((S.deck.length : Nat) + 1)).toNat ((S.q.tunes.length : Nat) + 1)).map V.int)) :: _) H := hS
    walk_at "s"
    exact h1 ok _ (Sep.clO' (⟨S.q.put z pl.toNat, dnext S.d, true, S.ag, insAt S.deck (dval S.d ((S.deck.length : Nat) + 1)).toNat ((S.q.tunes.length : Nat) + 1), S.gone, S.beh⟩) dx q c k hS (by (try simp only [List.map_nil]); repeat (first | exact En.refl | exact En.nil | refine En.cons ?_ | refine En.drop ?_)))
  | false =>
    have e1 : S.put z pl.toNat = ⟨S.q.put z pl.toNat, S.d, false, S.ag, S.deck, S.gone, S.beh⟩ := by unfold OS.put; rw [hm]
    rw [e1] at h1
    rw [hm] at hS
    walk_at "s"
    exact h1 ok _ (Sep.clO' (⟨S.q.put z pl.toNat, S.d, false, S.ag, S.deck, S.gone, S.beh⟩) dx q c k hS (by (try simp only [List.map_nil]); repeat (first | exact En.refl | exact En.nil | refine En.cons ?_ | refine En.drop ?_)))
/-- an entry begins -/
def wo (e : Int) (ns : List Int) : List Int := ns.filter fun o => !decide (some o = some e)
theorem wo_not {e : Int} {ns : List Int} (h : e ∉ ns) : wo e ns = ns := List.filter_eq_self.mpr fun a ha => by
  have : a ≠ e := fun z => h (z ▸ ha)
  simp [this]
theorem wo_rem {e : Int} : ∀ {ns : List Int}, ns.Nodup → e ∈ ns → ns.eraseIdx (ns.idxOf e) = wo e ns
  | x :: r, hd, he => by
    obtain ⟨h1, h2⟩ := List.nodup_cons.mp hd
    by_cases hx : x = e
    · subst hx
      rw [List.idxOf_cons_self]
      show r = wo x (x :: r)
      have e1 : wo x (x :: r) = wo x r := by unfold wo; simp
      rw [e1, wo_not h1]
    · have he' : e ∈ r := (List.mem_cons.mp he).resolve_left (Ne.symm hx)
      have e1 : wo e (x :: r) = x :: wo e r := by unfold wo; simp [hx]
      have e2 : (x :: r).idxOf e = r.idxOf e + 1 := by
        rw [List.idxOf_cons, beq_eq_false_iff_ne.mpr hx] <;> rfl
      rw [e1, ← wo_rem h2 he', e2]
      rfl
def OS.began (S : OS) (e : Int) : OS := ⟨S.q, S.d, S.mx, S.ag, wo e S.deck, if e ∈ S.q.turn then false else S.gone, S.beh⟩
def sp_Order_began (K : PySem.W.Frag) : Sp := fun vs H Q E => ∃ (p : Addr) (e : Int) (S : OS) (R : List As), vs = [.ref p, .int e] ∧ S.Ok ∧ Sep (OrderR K p S :: R) H ∧ (∀ H', Sep (OrderR K p (S.began e) :: R) H' → Q .non H')
theorem ln_Order_began : ∀ vs H Q E, sp_Order_began K vs H Q E → vs.length = (["self", "entry"] : List Str).length := by
  rintro _ _ _ _ ⟨p, e, S, R, rfl, _⟩
  rfl
theorem sc_Order_began : FnScope ["self", "entry"] ["self", "entry"] (defScope s_Order_began) := ⟨rfl, rfl, rfl, by decide +kernel, rfl, by decide +kernel, by decide +kernel⟩
theorem ok_Order_began (T : Top K mg) : OkD P w K mg base d_Order_began 2 ["self", "entry"] (sp_Order_began K) := by
  refine okD (df_Order_began T) sc_Order_began (fun _ _ _ _ _ _ us hl => match us, hl with | [_, _], _ => rfl) ln_Order_began (fun cdv A outer s H vs Q E hr h => ⟨_,
      pss_cons (ps_if (pt_cmpR op_in_seq (pv 1) (px_meth0 (ok_Queue_entries T) (hr.mono (by decide)) (pe_fld (pv 0) rfl) (cl_Queue T) (me_Queue_entries T) (fun σ => paD σ)) (by rfl))
       (pss_one (ps_fld (pv 0) pe_bl rfl))
       (pss_nil))
      (pss_one (ps_if (pt_cmpR op_in_seq (pv 1) (pe_fld (pv 0) rfl) (by rfl))
       (pss_one (ps_expr (pe_bm PySem.F.plainAttrs_list PySem.F.slot_list_remove PySem.F.type_list_remove mt_remove (pe_fld (pv 0) rfl) (pa_cons (pv 1) pa_nil))))
       (pss_nil))), ?_⟩)
  obtain ⟨p, e, S, R, rfl, ho, hS, h1⟩ := h
  obtain ⟨dx, q, c, k, hS⟩ := hS.opO
  walk_at "go"
  refine ⟨q, S.q, _, rfl, hS.own q, fun l H hS => ?_⟩
  walk_at "s"
  refine x_inI (sqL hS) ?_
  walk_at "s"
  unfold OS.began at h1
  refine x_dec (fun he => ?_) (fun he => ?_)
  · rw [if_pos he] at h1
    walk_at "s"
    refine x_inI (sqL hS) ?_
    walk_at "s"
    refine x_dec (fun hd => ?_) (fun hd => ?_)
    · walk_at "s"
      refine y_bml (sqL hS) ?_
      walk_at "s"
      refine x_remI hS hd fun H hS => ?_
      rw [wo_rem ho.dnd hd] at hS
      walk_at "s"
      exact h1 _ (Sep.clO' (⟨S.q, S.d, S.mx, S.ag, wo e S.deck, false, S.beh⟩) dx q c k hS (by (try simp only [List.map_nil]); repeat (first | exact En.refl | exact En.nil | refine En.cons ?_ | refine En.drop ?_)))
    · rw [wo_not hd] at h1
      walk_at "s"
      exact h1 _ (Sep.clO' (⟨S.q, S.d, S.mx, S.ag, S.deck, false, S.beh⟩) dx q c k hS (by (try simp only [List.map_nil]); repeat (first | exact En.refl | exact En.nil | refine En.cons ?_ | refine En.drop ?_)))
  · rw [if_neg he] at h1
    walk_at "s"
    refine x_inI (sqL hS) ?_
    walk_at "s"
    refine x_dec (fun hd => ?_) (fun hd => ?_)
    · walk_at "s"
      refine y_bml (sqL hS) ?_
      walk_at "s"
      refine x_remI hS hd fun H hS => ?_
      rw [wo_rem ho.dnd hd] at hS
      walk_at "s"
      exact h1 _ (Sep.clO' (⟨S.q, S.d, S.mx, S.ag, wo e S.deck, S.gone, S.beh⟩) dx q c k hS (by (try simp only [List.map_nil]); repeat (first | exact En.refl | exact En.nil | refine En.cons ?_ | refine En.drop ?_)))
    · rw [wo_not hd] at h1
      walk_at "s"
      exact h1 _ (Sep.clO' (⟨S.q, S.d, S.mx, S.ag, S.deck, S.gone, S.beh⟩) dx q c k hS (by (try simp only [List.map_nil]); repeat (first | exact En.refl | exact En.nil | refine En.cons ?_ | refine En.drop ?_)))
/-- the front of what is left of a round -/
def OS.pop (S : OS) : OS × Option Int := match S.deck with
  | [] => (S, none)
  | x :: r => (⟨S.q, S.d, S.mx, S.ag, r, S.gone, S.beh⟩, some x)
/-- a round anew -/
def OS.deal (S : OS) (f : List Int → List Int) : OS := ⟨S.q, mixSd S.d S.q.turn, S.mx, S.ag, f (mixN S.d S.q.turn), S.gone, S.beh⟩
def OS.first (S : OS) : OS × Option Int := match S.mx with
  | false => (S, S.q.turn[0]?)
  | true => (if S.deck = [] then S.deal id else S).pop
def sp_Order_first (K : PySem.W.Frag) : Sp := fun vs H Q E => ∃ (p : Addr) (S : OS) (R : List As), vs = [.ref p] ∧ S.Ok ∧ Sep (OrderR K p S :: R) H ∧ (∀ H', Sep (OrderR K p S.first.1 :: R) H' → Q (oV S.first.2) H')
theorem ln_Order_first : ∀ vs H Q E, sp_Order_first K vs H Q E → vs.length = (["self"] : List Str).length := by
  rintro _ _ _ _ ⟨p, S, R, rfl, _⟩
  rfl
theorem sc_Order_first : FnScope ["self"] ["self"] (defScope s_Order_first) := ⟨rfl, rfl, rfl, by decide +kernel, rfl, by decide +kernel, by decide +kernel⟩
theorem ok_Order_first (T : Top K mg) : OkD P w K mg base d_Order_first 3 ["self"] (sp_Order_first K) := by
  refine okD (df_Order_first T) sc_Order_first (fun _ _ _ _ _ _ us hl => match us, hl with | [_], _ => rfl) ln_Order_first (fun cdv A outer s H vs Q E hr h => ⟨_,
      pss_cons (ps_if (pt_not (px_truth (pe_fld (pv 0) rfl) (by intro _; rfl)))
       (pss_one (ps_ret (pe_ifExp (px_truth (px_meth0 (ok_Queue_entries T) (hr.mono (by decide)) (pe_fld (pv 0) rfl) (cl_Queue T) (me_Queue_entries T) (fun σ => paD σ)) (by intro _; rfl)) (pe_ix ix_seq (px_meth0 (ok_Queue_entries T) (hr.mono (by decide)) (pe_fld (pv 0) rfl) (cl_Queue T) (me_Queue_entries T) (fun σ => paD σ)) pe_int (fun _ _ => rfl)) pe_non)))
       (pss_nil))
      (pss_cons (ps_if (pt_not (px_truth (pe_fld (pv 0) rfl) (by intro _; rfl)))
       (pss_one (ps_fld (pv 0) (px_call (ok_mixed T) (hr.mono (by decide)) rfl (gl_mixed T) (fun σ => paD σ) (pa_cons (pe_fld (pv 0) rfl) (pa_cons (px_meth0 (ok_Queue_entries T) (hr.mono (by decide)) (pe_fld (pv 0) rfl) (cl_Queue T) (me_Queue_entries T) (fun σ => paD σ)) pa_nil))) rfl))
       (pss_nil))
      (pss_one (ps_ret (pe_ifExp (px_truth (pe_fld (pv 0) rfl) (by intro _; rfl)) (pe_bm PySem.F.plainAttrs_list PySem.F.slot_list_pop PySem.F.type_list_pop mt_popAt (pe_fld (pv 0) rfl) (pa_cons pe_int pa_nil)) pe_non)))), ?_⟩)
  obtain ⟨p, S, R, rfl, ho, hS, h1⟩ := h
  obtain ⟨dx, q, c, k, hS⟩ := hS.opO
  have hl := ho.len
  walk_at "go"
  unfold OS.first at h1
  cases hm : S.mx with
  | false =>
    rw [hm] at h1 hS
    walk_at "s"
    refine ⟨q, S.q, _, rfl, hS.own q, fun l H hS => ?_⟩
    refine y_trul (sqL hS) ?_
    cases ht : S.q.turn with
    | nil =>
      rw [ht] at h1
      walk_at "s"
      exact h1 _ (by rw [S.mx_eq hm]; exact (Sep.clO' (⟨S.q, S.d, false, S.ag, S.deck, S.gone, S.beh⟩) dx q c k hS (by (try simp only [List.map_nil]); repeat (first | exact En.refl | exact En.nil | refine En.cons ?_ | refine En.drop ?_))))
    | cons x r =>
      rw [ht] at h1
      refine x_yes rfl ?_
      walk_at "s"
      refine ⟨q, S.q, _, rfl, hS.own q, fun l2 H hS => ?_⟩
      walk_at "s"
      refine x_ixL (sqL hS) (atI_nat (j := 0) (v := .int x) (by rw [ht] <;> rfl)) ?_
      walk_at "s"
      exact h1 _ (by rw [S.mx_eq hm]; exact (Sep.clO' (⟨S.q, S.d, false, S.ag, S.deck, S.gone, S.beh⟩) dx q c k hS (by (try simp only [List.map_nil]); repeat (first | exact En.refl | exact En.nil | refine En.cons ?_ | refine En.drop ?_))))
  | true =>
    rw [hm] at h1 hS
    walk_at "s"
    refine y_trul (sqL hS) ?_
    cases hd : S.deck with
    | nil =>
      rw [hd] at hS
      rw [if_pos hd] at h1
      walk_at "s"
      refine x_yes rfl ?_
      walk_at "s"
      refine ⟨q, S.q, _, rfl, hS.own q, fun l H hS => ?_⟩
      walk_at "s"
      refine ⟨c, l, S.d, S.q.turn.map V.int, _, rfl, ho.seed, by rw [List.length_map]; omega, hS.own2 c l, fun l3 H hS => ?_⟩
      rw [mixN_eq] at hS
      replace hS : Sep (pt l3 (.lst ((mixN S.d S.q.turn).map V.int)) :: DiceR K c (mixSd S.d S.q.turn) :: _) H := hS
      walk_at "s"
      refine y_trul (sqL hS) ?_
      unfold OS.pop OS.deal at h1
      dsimp only [id] at h1
      cases hx : mixN S.d S.q.turn with
      | nil =>
        rw [hx] at h1 hS
        walk_at "s"
        exact h1 _ (by rw [hm]; exact (Sep.clO' (⟨S.q, mixSd S.d S.q.turn, true, S.ag, [], S.gone, S.beh⟩) dx q c l3 hS (by (try simp only [List.map_nil]); repeat (first | exact En.refl | exact En.nil | refine En.cons ?_ | refine En.drop ?_))))
      | cons x r =>
        rw [hx] at h1 hS
        walk_at "s"
        refine x_yes rfl ?_
        walk_at "s"
        refine y_bml (sqL hS) ?_
        walk_at "s"
        refine x_pop0 hS fun H hS => ?_
        walk_at "s"
        exact h1 _ (by rw [hm]; exact (Sep.clO' (⟨S.q, mixSd S.d S.q.turn, true, S.ag, r, S.gone, S.beh⟩) dx q c l3 hS (by (try simp only [List.map_nil]); repeat (first | exact En.refl | exact En.nil | refine En.cons ?_ | refine En.drop ?_))))
    | cons x r =>
      rw [hd] at hS
      rw [if_neg (by rw [hd]; intro z; cases z)] at h1
      unfold OS.pop at h1
      rw [hd] at h1
      walk_at "s"
      refine x_no rfl ?_
      walk_at "s"
      refine y_trul (sqL hS) ?_
      walk_at "s"
      refine x_yes rfl ?_
      walk_at "s"
      refine y_bml (sqL hS) ?_
      walk_at "s"
      refine x_pop0 hS fun H hS => ?_
      walk_at "s"
      exact h1 _ (by rw [hm]; exact (Sep.clO' (⟨S.q, S.d, true, S.ag, r, S.gone, S.beh⟩) dx q c k hS (by (try simp only [List.map_nil]); repeat (first | exact En.refl | exact En.nil | refine En.cons ?_ | refine En.drop ?_))))

end
end TR

set_option Elab.async false
set_option linter.all false
set_option maxRecDepth 100000
set_option maxHeartbeats 4000000
/-! .. -/

namespace TR
open PySem PySem.Spec PyProof.Rows L2
section
variable {P : Program} {w : World} {K : PySem.W.Frag} {mg : Str → Option Value} {base : Heap}
/-- the last one to the front, the first one to the end -/
def rot (xs : List Int) : List Int := (xs.drop (xs.length - 1)) ++ ((xs.drop 1).take (xs.length - 1 - 1)) ++ xs.take 1
/-- the next round's turn: none twice in a row -/
def turnD (e : Option Int) (xs : List Int) : List Int := if 1 < xs.length ∧ xs[0]? = e then rot xs else xs
def OS.nextM (S : OS) (e : Option Int) : OS × Option Int := (if S.deck = [] ∧ S.ag = "all" then S.deal (turnD e) else S).pop
theorem OS.dk_eq {S : OS} {xs : List Int} (h : S.deck = xs) : S = ⟨S.q, S.d, S.mx, S.ag, xs, S.gone, S.beh⟩ := by
  cases S
  cases h
  rfl
theorem cut_from (ns : List Int) (n : Nat) : cutV (ns.map V.int) (some (n : Int)) none = (ns.drop n).map V.int := by
  unfold cutV
  rw [HT.sIx_nat, HT.sIx_none, List.length_map, List.map_drop, List.take_of_length_le (by rw [List.length_drop, List.length_map]; omega)]
  by_cases h : n ≤ ns.length
  · rw [Nat.min_eq_left h]
  · rw [Nat.min_eq_right (by omega), List.drop_of_length_le (by rw [List.length_map]; omega), List.drop_of_length_le (by rw [List.length_map]; omega)]
theorem cut_last {ns : List Int} (h : 1 < ns.length) : cutV (ns.map V.int) (some (-1)) none = (ns.drop (ns.length - 1)).map V.int := by
  have e : HT.sIx (ns.map V.int).length 0 (some (-1)) = ns.length - 1 := by
    show (if (-1 : Int) < 0 then ((-1 : Int) + ((ns.map V.int).length : Int)).toNat else min (-1 : Int).toNat (ns.map V.int).length) = _
    rw [if_pos (by decide), List.length_map]
    omega
  unfold cutV
  rw [e, HT.sIx_none, List.length_map, List.map_drop, List.take_of_length_le (by rw [List.length_drop, List.length_map]; omega)]
theorem cut_mid {ns : List Int} (h : 1 < ns.length) : cutV (ns.map V.int) (some 1) (some (-1)) = ((ns.drop 1).take (ns.length - 1 - 1)).map V.int := by
  have e : HT.sIx (ns.map V.int).length (ns.map V.int).length (some (-1)) = ns.length - 1 := by
    show (if (-1 : Int) < 0 then ((-1 : Int) + ((ns.map V.int).length : Int)).toNat else min (-1 : Int).toNat (ns.map V.int).length) = _
    rw [if_pos (by decide), List.length_map]
    omega
  have e2 : HT.sIx (ns.map V.int).length 0 (some 1) = 1 := by
    show (if (1 : Int) < 0 then ((1 : Int) + ((ns.map V.int).length : Int)).toNat else min (1 : Int).toNat (ns.map V.int).length) = _
    rw [if_neg (by decide), List.length_map, show (1 : Int).toNat = 1 from rfl]
    omega
  unfold cutV
  rw [e, e2, List.map_take, List.map_drop]
theorem cut_head {ns : List Int} (h : 1 < ns.length) : cutV (ns.map V.int) none (some 1) = (ns.take 1).map V.int := by
  have e2 : HT.sIx (ns.map V.int).length (ns.map V.int).length (some 1) = 1 := by
    show (if (1 : Int) < 0 then ((1 : Int) + ((ns.map V.int).length : Int)).toNat else min (1 : Int).toNat (ns.map V.int).length) = _
    rw [if_neg (by decide), List.length_map, show (1 : Int).toNat = 1 from rfl]
    omega
  unfold cutV
  rw [e2, HT.sIx_none, List.drop_zero, List.map_take]
def sp_Order_next_mixed (K : PySem.W.Frag) : Sp := fun vs H Q E => ∃ (p : Addr) (e : Option Int) (S : OS) (R : List As), vs = [.ref p, oV e] ∧ S.Ok ∧ Sep (OrderR K p S :: R) H ∧ (∀ H', Sep (OrderR K p (S.nextM e).1 :: R) H' → Q (oV (S.nextM e).2) H')
theorem ln_Order_next_mixed : ∀ vs H Q E, sp_Order_next_mixed K vs H Q E → vs.length = (["self", "entry"] : List Str).length := by
  rintro _ _ _ _ ⟨p, e, S, R, rfl, _⟩
  rfl
theorem sc_Order_next_mixed : FnScope ["self", "entry"] ["self", "entry"] (defScope s_Order_next_mixed) := ⟨rfl, rfl, rfl, by decide +kernel, rfl, by decide +kernel, by decide +kernel⟩
theorem ok_Order_next_mixed (T : Top K mg) : OkD P w K mg base d_Order_next_mixed 3 ["self", "entry"] (sp_Order_next_mixed K) := by
  refine okD (df_Order_next_mixed T) sc_Order_next_mixed (fun _ _ _ _ _ _ us hl => match us, hl with | [_, _], _ => rfl) ln_Order_next_mixed (fun cdv A outer s H vs Q E hr h => ⟨_,
      pss_cons (ps_if (PW.pt (pw_and (pt_not (px_truth (pe_fld (pv 0) rfl) (by intro _; rfl))) (pw_and1 (pt_cmpR (op_eqA hr.units) (pe_fld (pv 0) rfl) pe_str (nomark _)))))
       (pss_cons (ps_fld (pv 0) (px_call (ok_mixed T) (hr.mono (by decide)) rfl (gl_mixed T) (fun σ => paD σ) (pa_cons (pe_fld (pv 0) rfl) (pa_cons (px_meth0 (ok_Queue_entries T) (hr.mono (by decide)) (pe_fld (pv 0) rfl) (cl_Queue T) (me_Queue_entries T) (fun σ => paD σ)) pa_nil))) rfl)
        (pss_one (ps_if (PW.pt (pw_and (pt_cmpR op_gt (pe_callB call_lenA (by rfl) (fr_len T) (by decide +kernel) (pa_cons (pe_fld (pv 0) rfl) pa_nil)) pe_int (nomark _)) (pw_and1 (pt_cmpR (op_eqA hr.units) (pe_ix ix_seq (pe_fld (pv 0) rfl) pe_int (fun _ _ => rfl)) (pv 1) (nomark _)))))
         (pss_one (ps_fld (pv 0) (pe_op op_addA (pe_op op_addA (pe_slice sl_list (pe_fld (pv 0) rfl) (po_some (pe_un un_neg pe_int)) po_none) (pe_slice sl_list (pe_fld (pv 0) rfl) (po_some pe_int) (po_some (pe_un un_neg pe_int)))) (pe_slice sl_list (pe_fld (pv 0) rfl) po_none (po_some pe_int))) rfl))
         (pss_nil))))
       (pss_nil))
      (pss_one (ps_ret (pe_ifExp (px_truth (pe_fld (pv 0) rfl) (by intro _; rfl)) (pe_bm PySem.F.plainAttrs_list PySem.F.slot_list_pop PySem.F.type_list_pop mt_popAt (pe_fld (pv 0) rfl) (pa_cons pe_int pa_nil)) pe_non))), ?_⟩)
  obtain ⟨p, e, S, R, rfl, ho, hS, h1⟩ := h
  obtain ⟨dx, q, c, k, hS⟩ := hS.opO
  have hl := ho.len
  walk_at "go"
  unfold OS.nextM at h1
  refine y_trul (sqL hS) ?_
  cases hd : S.deck with
  | cons x r =>
    rw [hd] at hS
    rw [if_neg (by rw [hd]; rintro ⟨z, _⟩; cases z)] at h1
    unfold OS.pop at h1
    rw [hd] at h1
    walk_at "s"
    refine x_no rfl ?_
    walk_at "s"
    refine y_trul (sqL hS) ?_
    walk_at "s"
    refine x_yes rfl ?_
    walk_at "s"
    refine y_bml (sqL hS) ?_
    walk_at "s"
    refine x_pop0 hS fun H hS => ?_
    walk_at "s"
    exact h1 _ (Sep.clO' (⟨S.q, S.d, S.mx, S.ag, r, S.gone, S.beh⟩) dx q c k hS (by (try simp only [List.map_nil]); repeat (first | exact En.refl | exact En.nil | refine En.cons ?_ | refine En.drop ?_)))
  | nil =>
    rw [hd] at hS
    walk_at "s"
    refine x_yes rfl ?_
    walk_at "s"
    refine x_eqS rfl ?_
    walk_at "s"
    refine x_dec (fun ha => ?_) (fun ha => ?_)
    · have ha' : S.ag = "all" := by injection ha
      rw [if_pos ⟨hd, ha'⟩] at h1
      walk_at "s"
      refine ⟨q, S.q, _, rfl, hS.own q, fun l H hS => ?_⟩
      walk_at "s"
      refine ⟨c, l, S.d, S.q.turn.map V.int, _, rfl, ho.seed, by rw [List.length_map]; omega, hS.own2 c l, fun l3 H hS => ?_⟩
      rw [mixN_eq] at hS
      replace hS : Sep (pt l3 (.lst ((mixN S.d S.q.turn).map V.int)) :: DiceR K c (mixSd S.d S.q.turn) :: _) H := hS
      unfold OS.pop OS.deal at h1
      dsimp only at h1
      obtain ⟨xs, hx⟩ : ∃ xs, xs = mixN S.d S.q.turn := ⟨_, rfl⟩
      rw [← hx] at h1 hS
      have hxl : xs.length ≤ 12 := by rw [hx, (mixN_perm S.d S.q.turn).length_eq]; exact hl
      have exl : (xs.map V.int).length = xs.length := List.length_map _
      walk_at "s"
      refine x_lenL (sqL hS) ?_
      walk_at "s"
      rw [exl]
      refine x_dec (fun h2 => ?_) (fun h2 => ?_)
      · have h2' : 1 < xs.length := by omega
        obtain ⟨x0, hx0⟩ : ∃ x0, xs[0]? = some x0 := ⟨_, List.getElem?_eq_getElem (by omega)⟩
        walk_at "s"
        refine x_ixL (sqL hS) (atI_nat (j := 0) (v := .int x0) (by rw [List.getElem?_map, hx0] <;> rfl)) ?_
        walk_at "s"
        refine x_eqI1 ?_
        walk_at "s"
        refine x_dec (fun h3 => ?_) (fun h3 => ?_)
        · have et : turnD e xs = rot xs := if_pos ⟨h2', hx0.trans h3⟩
          rw [et] at h1
          walk_at "s"
          refine x_slL hS (sqL hS) fun l4 H hS => ?_
          rw [cut_last h2'] at hS
          walk_at "s"
          refine x_slL hS (sqL hS) fun l5 H hS => ?_
          rw [cut_mid h2'] at hS
          walk_at "s"
          refine x_cat hS (by simp only [List.length_map, List.length_drop, List.length_take, List.length_append]; exact sz' (by omega)) fun l6 H hS => ?_
          walk_at "s"
          refine x_slL hS (sqL hS) fun l7 H hS => ?_
          rw [cut_head h2'] at hS
          walk_at "s"
          refine x_cat hS (by simp only [List.length_map, List.length_drop, List.length_take, List.length_append]; exact sz' (by omega)) fun l8 H hS => ?_
          rw [← List.map_append, ← List.map_append] at hS
          obtain ⟨ys, hys⟩ : ∃ ys, ys = rot xs := ⟨_, rfl⟩
          replace hS : Sep (pt l8 (.lst ((rot xs).map V.int)) :: _) H := hS
          rw [← hys] at h1 hS
          walk_at "s"
          refine y_trul (sqL hS) ?_
          cases hy : ys with
          | nil =>
            rw [hy] at h1 hS
            walk_at "s"
            exact h1 _ (Sep.clO' (⟨S.q, mixSd S.d S.q.turn, S.mx, S.ag, [], S.gone, S.beh⟩) dx q c l8 hS (by (try simp only [List.map_nil]); repeat (first | exact En.refl | exact En.nil | refine En.cons ?_ | refine En.drop ?_)))
          | cons y r =>
            rw [hy] at h1 hS
            walk_at "s"
            refine x_yes rfl ?_
            walk_at "s"
            refine y_bml (sqL hS) ?_
            walk_at "s"
            refine x_pop0 hS fun H hS => ?_
            walk_at "s"
            exact h1 _ (Sep.clO' (⟨S.q, mixSd S.d S.q.turn, S.mx, S.ag, r, S.gone, S.beh⟩) dx q c l8 hS (by (try simp only [List.map_nil]); repeat (first | exact En.refl | exact En.nil | refine En.cons ?_ | refine En.drop ?_)))
        · have et : turnD e xs = xs := if_neg fun z => h3 (hx0.symm.trans z.2)
          rw [et] at h1
          clear hx
          obtain ⟨ys, hys⟩ : ∃ ys, ys = xs := ⟨_, rfl⟩
          rw [← hys] at h1 hS
          walk_at "s"
          refine y_trul (sqL hS) ?_
          cases hy : ys with
          | nil =>
            rw [hy] at h1 hS
            walk_at "s"
            exact h1 _ (Sep.clO' (⟨S.q, mixSd S.d S.q.turn, S.mx, S.ag, [], S.gone, S.beh⟩) dx q c l3 hS (by (try simp only [List.map_nil]); repeat (first | exact En.refl | exact En.nil | refine En.cons ?_ | refine En.drop ?_)))
          | cons y r =>
            rw [hy] at h1 hS
            walk_at "s"
            refine x_yes rfl ?_
            walk_at "s"
            refine y_bml (sqL hS) ?_
            walk_at "s"
            refine x_pop0 hS fun H hS => ?_
            walk_at "s"
            exact h1 _ (Sep.clO' (⟨S.q, mixSd S.d S.q.turn, S.mx, S.ag, r, S.gone, S.beh⟩) dx q c l3 hS (by (try simp only [List.map_nil]); repeat (first | exact En.refl | exact En.nil | refine En.cons ?_ | refine En.drop ?_)))
      · have et : turnD e xs = xs := if_neg fun z => h2 (by omega)
        rw [et] at h1
        clear hx
        obtain ⟨ys, hys⟩ : ∃ ys, ys = xs := ⟨_, rfl⟩
        rw [← hys] at h1 hS
        walk_at "s"
        refine y_trul (sqL hS) ?_
        cases hy : ys with
        | nil =>
          rw [hy] at h1 hS
          walk_at "s"
          exact h1 _ (Sep.clO' (⟨S.q, mixSd S.d S.q.turn, S.mx, S.ag, [], S.gone, S.beh⟩) dx q c l3 hS (by (try simp only [List.map_nil]); repeat (first | exact En.refl | exact En.nil | refine En.cons ?_ | refine En.drop ?_)))
        | cons y r =>
          rw [hy] at h1 hS
          walk_at "s"
          refine x_yes rfl ?_
          walk_at "s"
          refine y_bml (sqL hS) ?_
          walk_at "s"
          refine x_pop0 hS fun H hS => ?_
          walk_at "s"
          exact h1 _ (Sep.clO' (⟨S.q, mixSd S.d S.q.turn, S.mx, S.ag, r, S.gone, S.beh⟩) dx q c l3 hS (by (try simp only [List.map_nil]); repeat (first | exact En.refl | exact En.nil | refine En.cons ?_ | refine En.drop ?_)))
    · rw [if_neg (fun z => ha (by rw [z.2]))] at h1
      unfold OS.pop at h1
      rw [hd] at h1
      walk_at "s"
      refine y_trul (sqL hS) ?_
      walk_at "s"
      exact h1 _ (by rw [S.dk_eq hd]; exact (Sep.clO' (⟨S.q, S.d, S.mx, S.ag, [], S.gone, S.beh⟩) dx q c k hS (by (try simp only [List.map_nil]); repeat (first | exact En.refl | exact En.nil | refine En.cons ?_ | refine En.drop ?_))))

end
end TR

set_option Elab.async false
set_option linter.all false
set_option maxRecDepth 100000
set_option maxHeartbeats 4000000
/-! .. -/

namespace TR
open PySem PySem.Spec PyProof.Rows L2
section
variable {P : Program} {w : World} {K : PySem.W.Frag} {mg : Str → Option Value} {base : Heap}
/-- the place in the turn of what comes -/
def OS.at_ (S : OS) (e : Option Int) : Nat := if hasO e S.q.turn = true then (match e with
    | some i => S.q.turn.idxOf i + 1
    | none => 0) else if S.gone = true then (match S.beh with
    | some b => S.q.turn.idxOf b
    | none => S.q.turn.length) else 0
def OS.nextP (S : OS) (e : Option Int) : Option Int := if S.at_ e < S.q.turn.length then S.q.turn[S.at_ e]? else if S.ag = "all" then S.q.turn[0]? else none
def sp_Order_next_plain (K : PySem.W.Frag) : Sp := fun vs H Q E => ∃ (p : Addr) (e : Option Int) (S : OS) (R : List As), vs = [.ref p, oV e] ∧ S.Ok ∧ Sep (OrderR K p S :: R) H ∧ (∀ H', Sep (OrderR K p S :: R) H' → Q (oV (S.nextP e)) H')
theorem ln_Order_next_plain : ∀ vs H Q E, sp_Order_next_plain K vs H Q E → vs.length = (["self", "entry"] : List Str).length := by
  rintro _ _ _ _ ⟨p, e, S, R, rfl, _⟩
  rfl
theorem has_some {e : Option Int} {ns : List Int} (h : hasO e ns = true) : ∃ i, e = some i ∧ i ∈ ns := by
  cases e with
  | none => cases h
  | some i => exact ⟨i, rfl, of_decide_eq_true h⟩
theorem sc_Order_next_plain : FnScope ["self", "entry", "every", "place"] ["self", "entry"] (defScope s_Order_next_plain) := ⟨rfl, rfl, rfl, by decide +kernel, rfl, by decide +kernel, by decide +kernel⟩
theorem ok_Order_next_plain (T : Top K mg) : OkD P w K mg base d_Order_next_plain 2 ["self", "entry"] (sp_Order_next_plain K) := by
  refine okD (df_Order_next_plain T) sc_Order_next_plain (fun _ _ _ _ _ _ us hl => match us, hl with | [_, _], _ => rfl) ln_Order_next_plain (fun cdv A outer s H vs Q E hr h => ⟨_,
      pss_cons (ps_set (i := 2) sc_Order_next_plain.nd rfl (Or.inl rfl) (px_meth0 (ok_Queue_entries T) (hr.mono (by decide)) (pe_fld (pv 0) rfl) (cl_Queue T) (me_Queue_entries T) (fun σ => paD σ)))
      (pss_cons (ps_set (i := 3) sc_Order_next_plain.nd rfl (Or.inl rfl) (pe_ifExp (pt_cmpR op_in_seq (pv 1) (pv 2) (by rfl)) (pe_op op_addA (pe_bm PySem.F.plainAttrs_list PySem.F.slot_list_index PySem.F.type_list_index mt_index (pv 2) (pa_cons (pv 1) pa_nil)) pe_int) pe_int))
      (pss_cons (ps_if (PW.pt (pw_and (px_truth (pe_fld (pv 0) rfl) (by intro _; rfl)) (pw_and1 (pt_cmpR op_notIn_seq (pv 1) (pv 2) (by rfl)))))
       (pss_one (ps_set (i := 3) sc_Order_next_plain.nd rfl (Or.inl rfl) (pe_ifExp (pt_cmpR op_isN1 (pe_fld (pv 0) rfl) pe_non (nomark _)) (pe_callB call_lenA (by rfl) (fr_len T) (by decide +kernel) (pa_cons (pv 2) pa_nil)) (pe_bm PySem.F.plainAttrs_list PySem.F.slot_list_index PySem.F.type_list_index mt_index (pv 2) (pa_cons (pe_fld (pv 0) rfl) pa_nil)))))
       (pss_nil))
      (pss_cons (ps_if (pt_cmpR op_lt (pv 3) (pe_callB call_lenA (by rfl) (fr_len T) (by decide +kernel) (pa_cons (pv 2) pa_nil)) (nomark _))
       (pss_one (ps_ret (pe_ix ix_seq (pv 2) (pv 3) (fun _ _ => rfl))))
       (pss_nil))
      (pss_one (ps_ret (pe_ifExp (PW.pt (pw_and (pt_cmpR (op_eqA hr.units) (pe_fld (pv 0) rfl) pe_str (nomark _)) (pw_and1 (px_truth (pv 2) (by intro _; rfl))))) (pe_ix ix_seq (pv 2) pe_int (fun _ _ => rfl)) pe_non)))))), ?_⟩)
  obtain ⟨p, e, S, R, rfl, ho, hS, h1⟩ := h
  obtain ⟨dx, q, c, k, hS⟩ := hS.opO
  have hl := ho.len
  have etl : (S.q.turn.map V.int).length = S.q.turn.length := List.length_map _
  walk_at "go"
  refine ⟨q, S.q, _, rfl, hS.own q, fun l H hS => ?_⟩
  walk_at "s"
  refine x_inO (sqL hS) ?_
  walk_at "s"
  cases hh : hasO e S.q.turn with
  | true =>
    obtain ⟨i, he, hi⟩ := has_some hh
    have hat : S.at_ e = S.q.turn.idxOf i + 1 := by
      unfold OS.at_
      rw [if_pos hh, he]
    walk_at "s"
    refine y_bml (sqL hS) ?_
    walk_at "s"
    rw [he]
    refine x_ixI (sqL hS) hi ?_
    rw [← he]
    walk_at "s"
    cases hg : S.gone with
    | true =>
      walk_at "s"
      refine x_ninO (sqL hS) ?_
      rw [hh]
      walk_at "s"
      refine x_lenL (sqL hS) ?_
      walk_at "s"
      rw [etl]
      refine x_dec (fun h2 => ?_) (fun h2 => ?_)
      · obtain ⟨y, hy⟩ : ∃ y, S.q.turn[S.q.turn.idxOf i + 1]? = some y := ⟨_, List.getElem?_eq_getElem (by omega)⟩
        have e2 : S.nextP e = some y := by unfold OS.nextP; rw [hat, if_pos (by omega)]; exact hy
        walk_at "s"
        refine x_ixL (sqL hS) (atI_some (v := .int y) (by omega) (by rw [List.getElem?_map, show (((S.q.turn.idxOf i : Nat) : Int) + 1).toNat = S.q.turn.idxOf i + 1 by omega, hy] <;> rfl)) ?_
        rw [e2] at h1
        exact h1 _ (Sep.clO' (S) dx q c k hS (by (try simp only [List.map_nil]); repeat (first | exact En.refl | exact En.nil | refine En.cons ?_ | refine En.drop ?_)))
      · walk_at "s"
        refine x_eqS rfl ?_
        walk_at "s"
        refine x_dec (fun ha => ?_) (fun ha => ?_)
        · have ha' : S.ag = "all" := by injection ha
          have e2 : S.nextP e = S.q.turn[0]? := by unfold OS.nextP; rw [hat, if_neg (by omega), if_pos ha']
          rw [e2] at h1
          walk_at "s"
          refine y_trul (sqL hS) ?_
          cases ht : S.q.turn with
          | nil =>
            rw [ht] at h1
            walk_at "s"
            exact h1 _ (Sep.clO' (S) dx q c k hS (by (try simp only [List.map_nil]); repeat (first | exact En.refl | exact En.nil | refine En.cons ?_ | refine En.drop ?_)))
          | cons y r =>
            rw [ht] at h1
            walk_at "s"
            refine x_yes rfl ?_
            walk_at "s"
            refine x_ixL (sqL hS) (atI_nat (j := 0) (v := .int y) (by rw [ht] <;> rfl)) ?_
            walk_at "s"
            exact h1 _ (Sep.clO' (S) dx q c k hS (by (try simp only [List.map_nil]); repeat (first | exact En.refl | exact En.nil | refine En.cons ?_ | refine En.drop ?_)))
        · have e2 : S.nextP e = none := by unfold OS.nextP; rw [hat, if_neg (by omega), if_neg (fun z => ha (by rw [z]))]
          rw [e2] at h1
          walk_at "s"
          exact h1 _ (Sep.clO' (S) dx q c k hS (by (try simp only [List.map_nil]); repeat (first | exact En.refl | exact En.nil | refine En.cons ?_ | refine En.drop ?_)))
    | false =>
      walk_at "s"
      refine x_lenL (sqL hS) ?_
      walk_at "s"
      rw [etl]
      refine x_dec (fun h2 => ?_) (fun h2 => ?_)
      · obtain ⟨y, hy⟩ : ∃ y, S.q.turn[S.q.turn.idxOf i + 1]? = some y := ⟨_, List.getElem?_eq_getElem (by omega)⟩
        have e2 : S.nextP e = some y := by unfold OS.nextP; rw [hat, if_pos (by omega)]; exact hy
        walk_at "s"
        refine x_ixL (sqL hS) (atI_some (v := .int y) (by omega) (by rw [List.getElem?_map, show (((S.q.turn.idxOf i : Nat) : Int) + 1).toNat = S.q.turn.idxOf i + 1 by omega, hy] <;> rfl)) ?_
        rw [e2] at h1
        exact h1 _ (Sep.clO' (S) dx q c k hS (by (try simp only [List.map_nil]); repeat (first | exact En.refl | exact En.nil | refine En.cons ?_ | refine En.drop ?_)))
      · walk_at "s"
        refine x_eqS rfl ?_
        walk_at "s"
        refine x_dec (fun ha => ?_) (fun ha => ?_)
        · have ha' : S.ag = "all" := by injection ha
          have e2 : S.nextP e = S.q.turn[0]? := by unfold OS.nextP; rw [hat, if_neg (by omega), if_pos ha']
          rw [e2] at h1
          walk_at "s"
          refine y_trul (sqL hS) ?_
          cases ht : S.q.turn with
          | nil =>
            rw [ht] at h1
            walk_at "s"
            exact h1 _ (Sep.clO' (S) dx q c k hS (by (try simp only [List.map_nil]); repeat (first | exact En.refl | exact En.nil | refine En.cons ?_ | refine En.drop ?_)))
          | cons y r =>
            rw [ht] at h1
            walk_at "s"
            refine x_yes rfl ?_
            walk_at "s"
            refine x_ixL (sqL hS) (atI_nat (j := 0) (v := .int y) (by rw [ht] <;> rfl)) ?_
            walk_at "s"
            exact h1 _ (Sep.clO' (S) dx q c k hS (by (try simp only [List.map_nil]); repeat (first | exact En.refl | exact En.nil | refine En.cons ?_ | refine En.drop ?_)))
        · have e2 : S.nextP e = none := by unfold OS.nextP; rw [hat, if_neg (by omega), if_neg (fun z => ha (by rw [z]))]
          rw [e2] at h1
          walk_at "s"
          exact h1 _ (Sep.clO' (S) dx q c k hS (by (try simp only [List.map_nil]); repeat (first | exact En.refl | exact En.nil | refine En.cons ?_ | refine En.drop ?_)))
  | false =>
    have hn : ¬ hasO e S.q.turn = true := by rw [hh]; intro z; cases z
    walk_at "s"
    cases hg : S.gone with
    | true =>
      walk_at "s"
      refine x_ninO (sqL hS) ?_
      rw [hh]
      walk_at "s"
      cases hb : S.beh with
      | none =>
        have hat : S.at_ e = S.q.turn.length := by
          unfold OS.at_
          rw [if_neg hn, if_pos hg, hb]
        refine x_yes rfl ?_
        walk_at "s"
        refine x_lenL (sqL hS) ?_
        walk_at "s"
        rw [etl]
        walk_at "s"
        refine x_lenL (sqL hS) ?_
        walk_at "s"
        rw [etl]
        refine x_dec (fun h2 => ?_) (fun h2 => ?_)
        · obtain ⟨y, hy⟩ : ∃ y, S.q.turn[S.q.turn.length]? = some y := ⟨_, List.getElem?_eq_getElem (by omega)⟩
          have e2 : S.nextP e = some y := by unfold OS.nextP; rw [hat, if_pos (by omega)]; exact hy
          walk_at "s"
          refine x_ixL (sqL hS) (atI_some (v := .int y) (by omega) (by rw [List.getElem?_map, show (((S.q.turn.length : Nat) : Int)).toNat = S.q.turn.length by omega, hy] <;> rfl)) ?_
          rw [e2] at h1
          exact h1 _ (Sep.clO' (S) dx q c k hS (by (try simp only [List.map_nil]); repeat (first | exact En.refl | exact En.nil | refine En.cons ?_ | refine En.drop ?_)))
        · walk_at "s"
          refine x_eqS rfl ?_
          walk_at "s"
          refine x_dec (fun ha => ?_) (fun ha => ?_)
          · have ha' : S.ag = "all" := by injection ha
            have e2 : S.nextP e = S.q.turn[0]? := by unfold OS.nextP; rw [hat, if_neg (by omega), if_pos ha']
            rw [e2] at h1
            walk_at "s"
            refine y_trul (sqL hS) ?_
            cases ht : S.q.turn with
            | nil =>
              rw [ht] at h1
              walk_at "s"
              exact h1 _ (Sep.clO' (S) dx q c k hS (by (try simp only [List.map_nil]); repeat (first | exact En.refl | exact En.nil | refine En.cons ?_ | refine En.drop ?_)))
            | cons y r =>
              rw [ht] at h1
              walk_at "s"
              refine x_yes rfl ?_
              walk_at "s"
              refine x_ixL (sqL hS) (atI_nat (j := 0) (v := .int y) (by rw [ht] <;> rfl)) ?_
              walk_at "s"
              exact h1 _ (Sep.clO' (S) dx q c k hS (by (try simp only [List.map_nil]); repeat (first | exact En.refl | exact En.nil | refine En.cons ?_ | refine En.drop ?_)))
          · have e2 : S.nextP e = none := by unfold OS.nextP; rw [hat, if_neg (by omega), if_neg (fun z => ha (by rw [z]))]
            rw [e2] at h1
            walk_at "s"
            exact h1 _ (Sep.clO' (S) dx q c k hS (by (try simp only [List.map_nil]); repeat (first | exact En.refl | exact En.nil | refine En.cons ?_ | refine En.drop ?_)))
      | some b =>
        have hat : S.at_ e = S.q.turn.idxOf b := by
          unfold OS.at_
          rw [if_neg hn, if_pos hg, hb]
        refine x_no rfl ?_
        walk_at "s"
        refine y_bml (sqL hS) ?_
        walk_at "s"
        rw [hb]
        refine x_ixI (sqL hS) (ho.bh b hg hb) ?_
        walk_at "s"
        refine x_lenL (sqL hS) ?_
        walk_at "s"
        rw [etl]
        refine x_dec (fun h2 => ?_) (fun h2 => ?_)
        · obtain ⟨y, hy⟩ : ∃ y, S.q.turn[S.q.turn.idxOf b]? = some y := ⟨_, List.getElem?_eq_getElem (by omega)⟩
          have e2 : S.nextP e = some y := by unfold OS.nextP; rw [hat, if_pos (by omega)]; exact hy
          walk_at "s"
          refine x_ixL (sqL hS) (atI_some (v := .int y) (by omega) (by rw [List.getElem?_map, show (((S.q.turn.idxOf b : Nat) : Int)).toNat = S.q.turn.idxOf b by omega, hy] <;> rfl)) ?_
          rw [e2] at h1
          exact h1 _ (Sep.clO' (S) dx q c k hS (by (try simp only [List.map_nil]); repeat (first | exact En.refl | exact En.nil | refine En.cons ?_ | refine En.drop ?_)))
        · walk_at "s"
          refine x_eqS rfl ?_
          walk_at "s"
          refine x_dec (fun ha => ?_) (fun ha => ?_)
          · have ha' : S.ag = "all" := by injection ha
            have e2 : S.nextP e = S.q.turn[0]? := by unfold OS.nextP; rw [hat, if_neg (by omega), if_pos ha']
            rw [e2] at h1
            walk_at "s"
            refine y_trul (sqL hS) ?_
            cases ht : S.q.turn with
            | nil =>
              rw [ht] at h1
              walk_at "s"
              exact h1 _ (Sep.clO' (S) dx q c k hS (by (try simp only [List.map_nil]); repeat (first | exact En.refl | exact En.nil | refine En.cons ?_ | refine En.drop ?_)))
            | cons y r =>
              rw [ht] at h1
              walk_at "s"
              refine x_yes rfl ?_
              walk_at "s"
              refine x_ixL (sqL hS) (atI_nat (j := 0) (v := .int y) (by rw [ht] <;> rfl)) ?_
              walk_at "s"
              exact h1 _ (Sep.clO' (S) dx q c k hS (by (try simp only [List.map_nil]); repeat (first | exact En.refl | exact En.nil | refine En.cons ?_ | refine En.drop ?_)))
          · have e2 : S.nextP e = none := by unfold OS.nextP; rw [hat, if_neg (by omega), if_neg (fun z => ha (by rw [z]))]
            rw [e2] at h1
            walk_at "s"
            exact h1 _ (Sep.clO' (S) dx q c k hS (by (try simp only [List.map_nil]); repeat (first | exact En.refl | exact En.nil | refine En.cons ?_ | refine En.drop ?_)))
    | false =>
      have hat : S.at_ e = 0 := by
        unfold OS.at_
        rw [if_neg hn, if_neg (by rw [hg]; intro z; cases z)]
      walk_at "s"
      refine x_lenL (sqL hS) ?_
      walk_at "s"
      rw [etl]
      refine x_dec (fun h2 => ?_) (fun h2 => ?_)
      · obtain ⟨y, hy⟩ : ∃ y, S.q.turn[0]? = some y := ⟨_, List.getElem?_eq_getElem (by omega)⟩
        have e2 : S.nextP e = some y := by unfold OS.nextP; rw [hat, if_pos (by omega)]; exact hy
        walk_at "s"
        refine x_ixL (sqL hS) (atI_some (v := .int y) (by omega) (by rw [List.getElem?_map, show ((0 : Int)).toNat = 0 by omega, hy] <;> rfl)) ?_
        rw [e2] at h1
        exact h1 _ (Sep.clO' (S) dx q c k hS (by (try simp only [List.map_nil]); repeat (first | exact En.refl | exact En.nil | refine En.cons ?_ | refine En.drop ?_)))
      · walk_at "s"
        refine x_eqS rfl ?_
        walk_at "s"
        refine x_dec (fun ha => ?_) (fun ha => ?_)
        · have ha' : S.ag = "all" := by injection ha
          have e2 : S.nextP e = S.q.turn[0]? := by unfold OS.nextP; rw [hat, if_neg (by omega), if_pos ha']
          rw [e2] at h1
          walk_at "s"
          refine y_trul (sqL hS) ?_
          cases ht : S.q.turn with
          | nil =>
            rw [ht] at h1
            walk_at "s"
            exact h1 _ (Sep.clO' (S) dx q c k hS (by (try simp only [List.map_nil]); repeat (first | exact En.refl | exact En.nil | refine En.cons ?_ | refine En.drop ?_)))
          | cons y r =>
            rw [ht] at h1
            walk_at "s"
            refine x_yes rfl ?_
            walk_at "s"
            refine x_ixL (sqL hS) (atI_nat (j := 0) (v := .int y) (by rw [ht] <;> rfl)) ?_
            walk_at "s"
            exact h1 _ (Sep.clO' (S) dx q c k hS (by (try simp only [List.map_nil]); repeat (first | exact En.refl | exact En.nil | refine En.cons ?_ | refine En.drop ?_)))
        · have e2 : S.nextP e = none := by unfold OS.nextP; rw [hat, if_neg (by omega), if_neg (fun z => ha (by rw [z]))]
          rw [e2] at h1
          walk_at "s"
          exact h1 _ (Sep.clO' (S) dx q c k hS (by (try simp only [List.map_nil]); repeat (first | exact En.refl | exact En.nil | refine En.cons ?_ | refine En.drop ?_)))
def OS.skip (S : OS) (e : Option Int) : OS × Option Int := match S.mx with
  | true => S.nextM e
  | false => (S, S.nextP e)
def sp_Order_skip (K : PySem.W.Frag) : Sp := fun vs H Q E => ∃ (p : Addr) (e : Option Int) (S : OS) (R : List As), vs = [.ref p, oV e] ∧ S.Ok ∧ Sep (OrderR K p S :: R) H ∧ (∀ H', Sep (OrderR K p (S.skip e).1 :: R) H' → Q (oV (S.skip e).2) H')
theorem ln_Order_skip : ∀ vs H Q E, sp_Order_skip K vs H Q E → vs.length = (["self", "entry"] : List Str).length := by
  rintro _ _ _ _ ⟨p, e, S, R, rfl, _⟩
  rfl
theorem sc_Order_skip : FnScope ["self", "entry"] ["self", "entry"] (defScope s_Order_skip) := ⟨rfl, rfl, rfl, by decide +kernel, rfl, by decide +kernel, by decide +kernel⟩
theorem ok_Order_skip (T : Top K mg) : OkD P w K mg base d_Order_skip 4 ["self", "entry"] (sp_Order_skip K) := by
  refine okD (df_Order_skip T) sc_Order_skip (fun _ _ _ _ _ _ us hl => match us, hl with | [_, _], _ => rfl) ln_Order_skip (fun cdv A outer s H vs Q E hr h => ⟨_,
      pss_one (ps_ret (pe_ifExp (px_truth (pe_fld (pv 0) rfl) (by intro _; rfl)) (px_meth (ok_Order_next_mixed T) (hr.mono (by decide)) (pv 0) (cl_Order T) (me_Order_next_mixed T) (fun σ => paD σ) (pa_cons (pv 1) pa_nil)) (px_meth (ok_Order_next_plain T) (hr.mono (by decide)) (pv 0) (cl_Order T) (me_Order_next_plain T) (fun σ => paD σ) (pa_cons (pv 1) pa_nil)))), ?_⟩)
  obtain ⟨p, e, S, R, rfl, ho, hS, h1⟩ := h
  obtain ⟨dx, q, c, k, hS⟩ := hS.opO
  walk_at "go"
  unfold OS.skip at h1
  cases hm : S.mx with
  | true =>
    rw [hm] at h1
    walk_at "s"
    exact ⟨p, e, S, R, rfl, ho, (Sep.clO' (S) dx q c k hS (by (try simp only [List.map_nil]); repeat (first | exact En.refl | exact En.nil | refine En.cons ?_ | refine En.drop ?_))), h1⟩
  | false =>
    rw [hm] at h1
    walk_at "s"
    exact ⟨p, e, S, R, rfl, ho, (Sep.clO' (S) dx q c k hS (by (try simp only [List.map_nil]); repeat (first | exact En.refl | exact En.nil | refine En.cons ?_ | refine En.drop ?_))), h1⟩
def OS.after (S : OS) (e : Option Int) : OS × Option Int := if S.ag = "one" ∧ hasO e S.q.turn = true then (S, e) else S.skip e
def sp_Order_after (K : PySem.W.Frag) : Sp := fun vs H Q E => ∃ (p : Addr) (e : Option Int) (S : OS) (R : List As), vs = [.ref p, oV e] ∧ S.Ok ∧ Sep (OrderR K p S :: R) H ∧ (∀ H', Sep (OrderR K p (S.after e).1 :: R) H' → Q (oV (S.after e).2) H')
theorem ln_Order_after : ∀ vs H Q E, sp_Order_after K vs H Q E → vs.length = (["self", "entry"] : List Str).length := by
  rintro _ _ _ _ ⟨p, e, S, R, rfl, _⟩
  rfl
theorem sc_Order_after : FnScope ["self", "entry"] ["self", "entry"] (defScope s_Order_after) := ⟨rfl, rfl, rfl, by decide +kernel, rfl, by decide +kernel, by decide +kernel⟩
theorem ok_Order_after (T : Top K mg) : OkD P w K mg base d_Order_after 5 ["self", "entry"] (sp_Order_after K) := by
  refine okD (df_Order_after T) sc_Order_after (fun _ _ _ _ _ _ us hl => match us, hl with | [_, _], _ => rfl) ln_Order_after (fun cdv A outer s H vs Q E hr h => ⟨_,
      pss_cons (ps_if (PW.pt (pw_and (pt_cmpR (op_eqA hr.units) (pe_fld (pv 0) rfl) pe_str (nomark _)) (pw_and1 (pt_cmpR op_in_seq (pv 1) (px_meth0 (ok_Queue_entries T) (hr.mono (by decide)) (pe_fld (pv 0) rfl) (cl_Queue T) (me_Queue_entries T) (fun σ => paD σ)) (by rfl)))))
       (pss_one (ps_ret (pv 1)))
       (pss_nil))
      (pss_one (ps_ret (px_meth (ok_Order_skip T) (hr.mono (by decide)) (pv 0) (cl_Order T) (me_Order_skip T) (fun σ => paD σ) (pa_cons (pv 1) pa_nil)))), ?_⟩)
  obtain ⟨p, e, S, R, rfl, ho, hS, h1⟩ := h
  obtain ⟨dx, q, c, k, hS⟩ := hS.opO
  walk_at "go"
  unfold OS.after at h1
  refine x_eqS rfl ?_
  walk_at "s"
  refine x_dec (fun ha => ?_) (fun ha => ?_)
  · have ha' : S.ag = "one" := by injection ha
    walk_at "s"
    refine ⟨q, S.q, _, rfl, hS.own q, fun l H hS => ?_⟩
    walk_at "s"
    refine x_inO (sqL hS) ?_
    cases hh : hasO e S.q.turn with
    | true =>
      rw [if_pos ⟨ha', hh⟩] at h1
      walk_at "s"
      exact h1 _ (Sep.clO' (S) dx q c k hS (by (try simp only [List.map_nil]); repeat (first | exact En.refl | exact En.nil | refine En.cons ?_ | refine En.drop ?_)))
    | false =>
      rw [if_neg (fun z => by rw [hh] at z; cases z.2)] at h1
      walk_at "s"
      exact ⟨p, e, S, R, rfl, ho, (Sep.clO' (S) dx q c k hS (by (try simp only [List.map_nil]); repeat (first | exact En.refl | exact En.nil | refine En.cons ?_ | refine En.drop ?_))), h1⟩
  · rw [if_neg (fun z => ha (by rw [z.1]))] at h1
    walk_at "s"
    exact ⟨p, e, S, R, rfl, ho, (Sep.clO' (S) dx q c k hS (by (try simp only [List.map_nil]); repeat (first | exact En.refl | exact En.nil | refine En.cons ?_ | refine En.drop ?_))), h1⟩
/-- an entry goes -/
def OS.hit (S : OS) (e : Int) (now : Option Int) : Prop := some e = now ∨ (S.gone = true ∧ some e = S.beh)
instance (S : OS) (e : Int) (now : Option Int) : Decidable (S.hit e now) := by unfold OS.hit; infer_instance
def OS.remove (S : OS) (e : Int) (now : Option Int) : OS := if S.hit e now then ⟨S.q.remove e, S.d, S.mx, S.ag, wo e S.deck, true, S.q.turn[S.q.turn.idxOf e + 1]?⟩ else ⟨S.q.remove e, S.d, S.mx, S.ag, wo e S.deck, S.gone, S.beh⟩
def sp_Order_remove (K : PySem.W.Frag) : Sp := fun vs H Q E => ∃ (p : Addr) (e : Int) (now : Option Int) (S : OS) (R : List As), vs = [.ref p, .int e, oV now] ∧ S.Ok ∧ Sep (OrderR K p S :: R) H ∧
  (e ∈ S.q.turn → ∀ H', Sep (OrderR K p (S.remove e now) :: R) H' → Q .non H') ∧ (e ∉ S.q.turn → ∀ H', Sep (OrderR K p S :: R) H' → E (.ref (He.ga K "BadEntry")) none H')
theorem ln_Order_remove : ∀ vs H Q E, sp_Order_remove K vs H Q E → vs.length = (["self", "entry", "now"] : List Str).length := by
  rintro _ _ _ _ ⟨p, e, now, S, R, rfl, _⟩
  rfl
theorem sc_Order_remove : FnScope ["self", "entry", "now", "later"] ["self", "entry", "now"] (defScope s_Order_remove) := ⟨rfl, rfl, rfl, by decide +kernel, rfl, by decide +kernel, by decide +kernel⟩
theorem ok_Order_remove (T : Top K mg) : OkD P w K mg base d_Order_remove 3 ["self", "entry", "now"] (sp_Order_remove K) := by
  refine okD (df_Order_remove T) sc_Order_remove (fun _ _ _ _ _ _ us hl => match us, hl with | [_, _, _], _ => rfl) ln_Order_remove (fun cdv A outer s H vs Q E hr h => ⟨_,
      pss_cons (ps_set (i := 3) sc_Order_remove.nd rfl (Or.inl rfl) (pe_slice sl_list (px_meth0 (ok_Queue_entries T) (hr.mono (by decide)) (pe_fld (pv 0) rfl) (cl_Queue T) (me_Queue_entries T) (fun σ => paD σ)) (po_some (pe_op op_addA (px_meth (ok_Queue_place T) (hr.mono (by decide)) (pe_fld (pv 0) rfl) (cl_Queue T) (me_Queue_place T) (fun σ => paD σ) (pa_cons (pv 1) pa_nil)) pe_int)) po_none))
      (pss_cons (ps_expr (px_meth (ok_Queue_remove T) (hr.mono (by decide)) (pe_fld (pv 0) rfl) (cl_Queue T) (me_Queue_remove T) (fun σ => paD σ) (pa_cons (pv 1) pa_nil)))
      (pss_cons (ps_if (pt_cmpR op_in_seq (pv 1) (pe_fld (pv 0) rfl) (by rfl))
       (pss_one (ps_expr (pe_bm PySem.F.plainAttrs_list PySem.F.slot_list_remove PySem.F.type_list_remove mt_remove (pe_fld (pv 0) rfl) (pa_cons (pv 1) pa_nil))))
       (pss_nil))
      (pss_one (ps_if (PW.pt (pw_or (pt_cmpR (op_eqA hr.units) (pv 1) (pv 2) (nomark _)) (pw_or1 (PW.pt (pw_and (px_truth (pe_fld (pv 0) rfl) (by intro _; rfl)) (pw_and1 (pt_cmpR (op_eqA hr.units) (pv 1) (pe_fld (pv 0) rfl) (nomark _))))))))
       (pss_cons (ps_fld (pv 0) pe_bl rfl)
        (pss_one (ps_fld (pv 0) (pe_ifExp (px_truth (pv 3) (by intro _; rfl)) (pe_ix ix_seq (pv 3) pe_int (fun _ _ => rfl)) pe_non) rfl)))
       (pss_nil))))), ?_⟩)
  obtain ⟨p, e, now, S, R, rfl, ho, hS, h1, h2⟩ := h
  obtain ⟨dx, q, c, k, hS⟩ := hS.opO
  walk_at "go"
  refine ⟨q, S.q, _, rfl, hS.own q, fun l H hS => ?_⟩
  walk_at "s"
  refine ⟨q, e, S.q, _, rfl, hS.own q, fun hy H hS => ?_, fun no H hS => h2 no _ (Sep.clO' (S) dx q c k hS (by (try simp only [List.map_nil]); repeat (first | exact En.refl | exact En.nil | refine En.cons ?_ | refine En.drop ?_)))⟩
  replace h1 := h1 hy
  walk_at "s"
  refine x_slL hS (sqL hS) fun l2 H hS => ?_
  have e1 : ((S.q.turn.idxOf e : Nat) : Int) + 1 = ((S.q.turn.idxOf e + 1 : Nat) : Int) := by omega
  rw [e1, cut_from] at hS
  obtain ⟨w, hw⟩ : ∃ w, w = S.q.turn.drop (S.q.turn.idxOf e + 1) := ⟨_, rfl⟩
  have hz : S.q.turn[S.q.turn.idxOf e + 1]? = w[0]? := by rw [hw, List.getElem?_drop, Nat.add_zero]
  rw [← hw] at hS
  unfold OS.remove at h1
  rw [hz] at h1
  walk_at "s"
  refine ⟨q, e, S.q, _, rfl, hS.own q, fun _ H hS => ?_, fun no => absurd hy no⟩
  walk_at "s"
  refine x_inI (sqL hS) ?_
  walk_at "s"
  refine x_dec (fun hd => ?_) (fun hd => ?_)
  · walk_at "s"
    refine y_bml (sqL hS) ?_
    walk_at "s"
    refine x_remI hS hd fun H hS => ?_
    rw [wo_rem ho.dnd hd] at hS
    walk_at "s"
    refine x_eqI1 ?_
    walk_at "s"
    refine x_dec (fun hn => ?_) (fun hn => ?_)
    · have hh : S.hit e now := .inl hn
      rw [if_pos hh] at h1
      walk_at "s"
      refine y_trul (sqL hS) ?_
      cases hx : w with
      | nil =>
        rw [hx] at h1
        walk_at "s"
        refine x_no rfl ?_
        walk_at "s"
        replace hS : Sep (pt p (.ins (He.ga K "Order") dx (nmOrder.zip [.ref q, .ref c, .bl S.mx, .str S.ag, .ref k, .bl true, oV none])) :: _) H := hS
        exact h1 _ (Sep.clO' (⟨S.q.remove e, S.d, S.mx, S.ag, wo e S.deck, true, none⟩) dx q c k hS (by (try simp only [List.map_nil]); repeat (first | exact En.refl | exact En.nil | refine En.cons ?_ | refine En.drop ?_)))
      | cons x r =>
        rw [hx] at h1
        walk_at "s"
        refine x_yes rfl ?_
        walk_at "s"
        refine x_ixL (sqL hS) (atI_nat (j := 0) (v := .int x) (by rw [hx] <;> rfl)) ?_
        walk_at "s"
        replace hS : Sep (pt p (.ins (He.ga K "Order") dx (nmOrder.zip [.ref q, .ref c, .bl S.mx, .str S.ag, .ref k, .bl true, oV (some x)])) :: _) H := hS
        exact h1 _ (Sep.clO' (⟨S.q.remove e, S.d, S.mx, S.ag, wo e S.deck, true, some x⟩) dx q c k hS (by (try simp only [List.map_nil]); repeat (first | exact En.refl | exact En.nil | refine En.cons ?_ | refine En.drop ?_)))
    · walk_at "s"
      cases hg : S.gone with
      | true =>
        walk_at "s"
        refine x_eqI1 ?_
        walk_at "s"
        refine x_dec (fun hb => ?_) (fun hb => ?_)
        · have hh : S.hit e now := .inr ⟨hg, hb⟩
          rw [if_pos hh] at h1
          walk_at "s"
          refine y_trul (sqL hS) ?_
          cases hx : w with
          | nil =>
            rw [hx] at h1
            walk_at "s"
            refine x_no rfl ?_
            walk_at "s"
            replace hS : Sep (pt p (.ins (He.ga K "Order") dx (nmOrder.zip [.ref q, .ref c, .bl S.mx, .str S.ag, .ref k, .bl true, oV none])) :: _) H := hS
            exact h1 _ (Sep.clO' (⟨S.q.remove e, S.d, S.mx, S.ag, wo e S.deck, true, none⟩) dx q c k hS (by (try simp only [List.map_nil]); repeat (first | exact En.refl | exact En.nil | refine En.cons ?_ | refine En.drop ?_)))
          | cons x r =>
            rw [hx] at h1
            walk_at "s"
            refine x_yes rfl ?_
            walk_at "s"
            refine x_ixL (sqL hS) (atI_nat (j := 0) (v := .int x) (by rw [hx] <;> rfl)) ?_
            walk_at "s"
            replace hS : Sep (pt p (.ins (He.ga K "Order") dx (nmOrder.zip [.ref q, .ref c, .bl S.mx, .str S.ag, .ref k, .bl true, oV (some x)])) :: _) H := hS
            exact h1 _ (Sep.clO' (⟨S.q.remove e, S.d, S.mx, S.ag, wo e S.deck, true, some x⟩) dx q c k hS (by (try simp only [List.map_nil]); repeat (first | exact En.refl | exact En.nil | refine En.cons ?_ | refine En.drop ?_)))
        · have hh : ¬ S.hit e now := fun z => z.elim hn fun z => hb z.2
          rw [if_neg hh] at h1
          walk_at "s"
          exact h1 _ (Sep.clO' (⟨S.q.remove e, S.d, S.mx, S.ag, wo e S.deck, S.gone, S.beh⟩) dx q c k hS (by (try simp only [List.map_nil]); repeat (first | exact En.refl | exact En.nil | refine En.cons ?_ | refine En.drop ?_)))
      | false =>
        have hh : ¬ S.hit e now := fun z => z.elim hn fun z => by rw [hg] at z; cases z.1
        rw [if_neg hh] at h1
        walk_at "s"
        exact h1 _ (Sep.clO' (⟨S.q.remove e, S.d, S.mx, S.ag, wo e S.deck, S.gone, S.beh⟩) dx q c k hS (by (try simp only [List.map_nil]); repeat (first | exact En.refl | exact En.nil | refine En.cons ?_ | refine En.drop ?_)))
  · walk_at "s"
    rw [wo_not hd] at h1
    refine x_eqI1 ?_
    walk_at "s"
    refine x_dec (fun hn => ?_) (fun hn => ?_)
    · have hh : S.hit e now := .inl hn
      rw [if_pos hh] at h1
      walk_at "s"
      refine y_trul (sqL hS) ?_
      cases hx : w with
      | nil =>
        rw [hx] at h1
        walk_at "s"
        refine x_no rfl ?_
        walk_at "s"
        replace hS : Sep (pt p (.ins (He.ga K "Order") dx (nmOrder.zip [.ref q, .ref c, .bl S.mx, .str S.ag, .ref k, .bl true, oV none])) :: _) H := hS
        exact h1 _ (Sep.clO' (⟨S.q.remove e, S.d, S.mx, S.ag, S.deck, true, none⟩) dx q c k hS (by (try simp only [List.map_nil]); repeat (first | exact En.refl | exact En.nil | refine En.cons ?_ | refine En.drop ?_)))
      | cons x r =>
        rw [hx] at h1
        walk_at "s"
        refine x_yes rfl ?_
        walk_at "s"
        refine x_ixL (sqL hS) (atI_nat (j := 0) (v := .int x) (by rw [hx] <;> rfl)) ?_
        walk_at "s"
        replace hS : Sep (pt p (.ins (He.ga K "Order") dx (nmOrder.zip [.ref q, .ref c, .bl S.mx, .str S.ag, .ref k, .bl true, oV (some x)])) :: _) H := hS
        exact h1 _ (Sep.clO' (⟨S.q.remove e, S.d, S.mx, S.ag, S.deck, true, some x⟩) dx q c k hS (by (try simp only [List.map_nil]); repeat (first | exact En.refl | exact En.nil | refine En.cons ?_ | refine En.drop ?_)))
    · walk_at "s"
      cases hg : S.gone with
      | true =>
        walk_at "s"
        refine x_eqI1 ?_
        walk_at "s"
        refine x_dec (fun hb => ?_) (fun hb => ?_)
        · have hh : S.hit e now := .inr ⟨hg, hb⟩
          rw [if_pos hh] at h1
          walk_at "s"
          refine y_trul (sqL hS) ?_
          cases hx : w with
          | nil =>
            rw [hx] at h1
            walk_at "s"
            refine x_no rfl ?_
            walk_at "s"
            replace hS : Sep (pt p (.ins (He.ga K "Order") dx (nmOrder.zip [.ref q, .ref c, .bl S.mx, .str S.ag, .ref k, .bl true, oV none])) :: _) H := hS
            exact h1 _ (Sep.clO' (⟨S.q.remove e, S.d, S.mx, S.ag, S.deck, true, none⟩) dx q c k hS (by (try simp only [List.map_nil]); repeat (first | exact En.refl | exact En.nil | refine En.cons ?_ | refine En.drop ?_)))
          | cons x r =>
            rw [hx] at h1
            walk_at "s"
            refine x_yes rfl ?_
            walk_at "s"
            refine x_ixL (sqL hS) (atI_nat (j := 0) (v := .int x) (by rw [hx] <;> rfl)) ?_
            walk_at "s"
            replace hS : Sep (pt p (.ins (He.ga K "Order") dx (nmOrder.zip [.ref q, .ref c, .bl S.mx, .str S.ag, .ref k, .bl true, oV (some x)])) :: _) H := hS
            exact h1 _ (Sep.clO' (⟨S.q.remove e, S.d, S.mx, S.ag, S.deck, true, some x⟩) dx q c k hS (by (try simp only [List.map_nil]); repeat (first | exact En.refl | exact En.nil | refine En.cons ?_ | refine En.drop ?_)))
        · have hh : ¬ S.hit e now := fun z => z.elim hn fun z => hb z.2
          rw [if_neg hh] at h1
          walk_at "s"
          exact h1 _ (Sep.clO' (⟨S.q.remove e, S.d, S.mx, S.ag, S.deck, S.gone, S.beh⟩) dx q c k hS (by (try simp only [List.map_nil]); repeat (first | exact En.refl | exact En.nil | refine En.cons ?_ | refine En.drop ?_)))
      | false =>
        have hh : ¬ S.hit e now := fun z => z.elim hn fun z => by rw [hg] at z; cases z.1
        rw [if_neg hh] at h1
        walk_at "s"
        exact h1 _ (Sep.clO' (⟨S.q.remove e, S.d, S.mx, S.ag, S.deck, S.gone, S.beh⟩) dx q c k hS (by (try simp only [List.map_nil]); repeat (first | exact En.refl | exact En.nil | refine En.cons ?_ | refine En.drop ?_)))

end
end TR

set_option Elab.async false
set_option linter.all false
set_option maxRecDepth 100000
set_option maxHeartbeats 4000000
/-! .. -/

namespace TR
open PySem PySem.Spec PyProof.Rows L2
section
variable {P : Program} {w : World} {K : PySem.W.Frag} {mg : Str → Option Value} {base : Heap}
/-! ### the law's own order -/
def ownD (t n c : Addr) (mx : Bool) (ag : Str) (r : Addr) (g w : V) : List (Key × V) := [(.inr "turn", .ref t), (.inr "tunes", .ref n), (.inr "dice", .ref c), (.inr "mixed", .bl mx), (.inr "again", .str ag), (.inr "round", .ref r), (.inr "gone", g), (.inr "now", w)]
section
variable {t n c r : Addr} {mx : Bool} {ag : Str} {g w : V}
instance : DGs (ownD t n c mx ag r g w) "turn" (.ref t) := ⟨by rfl⟩
instance : DGs (ownD t n c mx ag r g w) "tunes" (.ref n) := ⟨by rfl⟩
instance : DGs (ownD t n c mx ag r g w) "dice" (.ref c) := ⟨by rfl⟩
instance : DGs (ownD t n c mx ag r g w) "mixed" (.bl mx) := ⟨by rfl⟩
instance : DGs (ownD t n c mx ag r g w) "again" (.str ag) := ⟨by rfl⟩
instance : DGs (ownD t n c mx ag r g w) "round" (.ref r) := ⟨by rfl⟩
instance : DGs (ownD t n c mx ag r g w) "gone" (g) := ⟨by rfl⟩
instance : DGs (ownD t n c mx ag r g w) "now" (w) := ⟨by rfl⟩
instance {t' : Addr} : DPs (ownD t n c mx ag r g w) "turn" (.ref t') (ownD t' n c mx ag r g w) := ⟨by rfl, by show 8 ≤ 1000000; decide⟩
instance {r' : Addr} : DPs (ownD t n c mx ag r g w) "round" (.ref r') (ownD t n c mx ag r' g w) := ⟨by rfl, by show 8 ≤ 1000000; decide⟩
instance {m' : Bool} : DPs (ownD t n c mx ag r g w) "mixed" (.bl m') (ownD t n c m' ag r g w) := ⟨by rfl, by show 8 ≤ 1000000; decide⟩
instance {a' : Str} : DPs (ownD t n c mx ag r g w) "again" (.str a') (ownD t n c mx a' r g w) := ⟨by rfl, by show 8 ≤ 1000000; decide⟩
instance {g' : V} : DPs (ownD t n c mx ag r g w) "gone" (g') (ownD t n c mx ag r g' w) := ⟨by rfl, by show 8 ≤ 1000000; decide⟩
instance {w' : V} : DPs (ownD t n c mx ag r g w) "now" (w') (ownD t n c mx ag r g w') := ⟨by rfl, by show 8 ≤ 1000000; decide⟩
end

def ownD0 (t n c : Addr) (r : Addr) : List (Key × V) := [(.inr "turn", .ref t), (.inr "tunes", .ref n), (.inr "dice", .ref c), (.inr "mixed", .bl false), (.inr "again", .str "none"), (.inr "round", .ref r), (.inr "gone", .non)]
instance {t n c r : Addr} {w : V} : DPs (ownD0 t n c r) "now" w (ownD t n c false "none" r .non w) := ⟨by rfl, by show 7 ≤ 1000000; decide⟩
def gO (g : Bool) (b : Option Int) : Option Int := if g = true then some (b.getD 0) else none
def OwnR (p : Addr) (S : OS) (w : Option Int) : As := ex fun t => ex fun n => ex fun c => ex fun r =>
  all [pt p (.dK (ownD t n c S.mx S.ag r (oV (gO S.gone S.beh)) (oV w))), pt t (.lst (S.q.turn.map V.int)), pt n (.lst (S.q.tunes.map V.str)), pt c (.lst [.int S.d]), pt r (.lst (S.deck.map V.int))]
instance {p : Addr} {S : OS} {w : Option Int} : Kys (OwnR p S w) p := ⟨trivial⟩
theorem Sep.opW {p : Addr} {S : OS} {w : Option Int} {R : List As} {H : Hp} (h : Sep (OwnR p S w :: R) H) : ∃ t n c r, Sep (pt p (.dK (ownD t n c S.mx S.ag r (oV (gO S.gone S.beh)) (oV w))) :: pt t (.lst (S.q.turn.map V.int)) :: pt n (.lst (S.q.tunes.map V.str)) :: pt c (.lst [.int S.d]) :: pt r (.lst (S.deck.map V.int)) :: R) H := by
  obtain ⟨t, h⟩ := h.ex
  obtain ⟨n, h⟩ := h.ex
  obtain ⟨c, h⟩ := h.ex
  obtain ⟨r, h⟩ := h.ex
  exact ⟨t, n, c, r, h.flat⟩
theorem Sep.clW' (S : OS) (w : Option Int) (t n c r : Addr) {p : Addr} {R L : List As} {H : Hp} (h : Sep L H) (e : En L (pt p (.dK (ownD t n c S.mx S.ag r (oV (gO S.gone S.beh)) (oV w))) :: pt t (.lst (S.q.turn.map V.int)) :: pt n (.lst (S.q.tunes.map V.str)) :: pt c (.lst [.int S.d]) :: pt r (.lst (S.deck.map V.int)) :: R)) : Sep (OwnR p S w :: R) H :=
  Sep.exi t (Sep.exi n (Sep.exi c (Sep.exi r (Sep.wrap (h.of e)))))
def sp_l_order (K : PySem.W.Frag) : Sp := fun vs H Q E => ∃ (s : Int) (R : List As), vs = [.int s] ∧ Sep R H ∧
  ∀ p t n c r H', Sep (pt p (.dK (ownD0 t n c r)) :: pt t (.lst []) :: pt n (.lst []) :: pt c (.lst [.int s]) :: pt r (.lst []) :: R) H' → Q (.ref p) H'
theorem ln_l_order : ∀ vs H Q E, sp_l_order K vs H Q E → vs.length = (["_law_seed"] : List Str).length := by
  rintro _ _ _ _ ⟨s, R, rfl, _⟩
  rfl
theorem sc_l_order : FnScope ["_law_seed"] ["_law_seed"] (defScope s_l_order) := ⟨rfl, rfl, rfl, by decide +kernel, rfl, by decide +kernel, by decide +kernel⟩
theorem ok_l_order (T : Top K mg) : OkD P w K mg base d_l_order 1 ["_law_seed"] (sp_l_order K) := by
  refine okD (df_l_order T) sc_l_order (fun _ _ _ _ _ _ us hl => match us, hl with | [_], _ => rfl) ln_l_order (fun cdv A outer s H vs Q E hr h => ⟨_,
      pss_one (ps_ret (pe_disp (pps_cons pe_str (pe_lst pa_nil) (pps_cons pe_str (pe_lst pa_nil) (pps_cons pe_str (pe_lst (pa_cons (pv 0) pa_nil)) (pps_cons pe_str pe_bl (pps_cons pe_str pe_str (pps_cons pe_str (pe_lst pa_nil) (pps_cons pe_str pe_non pps_nil))))))) (by rfl) (by rfl) (fun z => by cases z) (by decide))), ?_⟩)
  obtain ⟨sd, R, rfl, hS, h1⟩ := h
  walk_at "s"
  rename_i p _ _ t _ _ n _ _ c _ _
  refine y_dsp (kvs' := ownD0 t n c u) hS (ownD0 t n c u) rfl (by show 7 ≤ 15; decide) rfl fun H hS => ?_
  exact h1 p t n c u _ (hS.of (by repeat (first | exact En.refl | exact En.nil | refine En.cons ?_ | refine En.drop ?_)))
theorem cut_to {ns : List Int} {n : Nat} (h : n ≤ ns.length) : cutV (ns.map V.int) none (some (n : Int)) = (ns.take n).map V.int := by
  unfold cutV
  rw [HT.sIx_nat, HT.sIx_none, List.length_map, List.drop_zero, Nat.min_eq_left h, List.map_take]
  rfl
def sp_l_put (K : PySem.W.Frag) : Sp := fun vs H Q E => ∃ (p : Addr) (z : Str) (j : Nat) (S : OS) (w : Option Int) (R : List As), vs = [.ref p, .str z, .int (j : Nat)] ∧ S.Ok ∧ j ≤ S.q.turn.length ∧ Sep (OwnR p S w :: R) H ∧
  ∀ H', Sep (OwnR p (S.put z j) w :: R) H' → Q (.int ((S.q.tunes.length : Nat) + 1)) H'
theorem ln_l_put : ∀ vs H Q E, sp_l_put K vs H Q E → vs.length = (["_law_order_here", "_law_name", "_law_place"] : List Str).length := by
  rintro _ _ _ _ ⟨p, z, j, S, w, R, rfl, _⟩
  rfl
theorem sc_l_put : FnScope ["_law_order_here", "_law_name", "_law_place", "_law_entry", "_law_at"] ["_law_order_here", "_law_name", "_law_place"] (defScope s_l_put) := ⟨rfl, rfl, rfl, by decide +kernel, rfl, by decide +kernel, by decide +kernel⟩
theorem ok_l_put (T : Top K mg) : OkD P w K mg base d_l_put 2 ["_law_order_here", "_law_name", "_law_place"] (sp_l_put K) := by
  refine okD (df_l_put T) sc_l_put (fun _ _ _ _ _ _ us hl => match us, hl with | [_, _, _], _ => rfl) ln_l_put (fun cdv A outer s H vs Q E hr h => ⟨_,
      pss_cons (ps_expr (pe_bm PySem.F.plainAttrs_list PySem.F.slot_list_append PySem.F.type_list_append mt_append (pe_dget (hu_of hr) (pv 0) pe_str (fun _ _ => rfl)) (pa_cons (pv 1) pa_nil)))
      (pss_cons (ps_set (i := 3) sc_l_put.nd rfl (Or.inl rfl) (pe_callB call_lenA (by rfl) (fr_len T) (by decide +kernel) (pa_cons (pe_dget (hu_of hr) (pv 0) pe_str (fun _ _ => rfl)) pa_nil)))
      (pss_cons (ps_dput (hu_of hr) (pv 0) pe_str (pe_op op_addA (pe_op op_addA (pe_slice sl_list (pe_dget (hu_of hr) (pv 0) pe_str (fun _ _ => rfl)) po_none (po_some (pv 2))) (pe_lst (pa_cons (pv 3) pa_nil))) (pe_slice sl_list (pe_dget (hu_of hr) (pv 0) pe_str (fun _ _ => rfl)) (po_some (pv 2)) po_none)) rfl)
      (pss_cons (ps_if (px_truth (pe_dget (hu_of hr) (pv 0) pe_str (fun _ _ => rfl)) (by intro _; rfl))
       (pss_cons (ps_set (i := 4) sc_l_put.nd rfl (Or.inl rfl) (px_call (ok_l_below T) (hr.mono (by decide)) rfl (gl__law_below T) (fun σ => paD σ) (pa_cons (pe_dget (hu_of hr) (pv 0) pe_str (fun _ _ => rfl)) (pa_cons (pe_op op_addA (pe_callB call_lenA (by rfl) (fr_len T) (by decide +kernel) (pa_cons (pe_dget (hu_of hr) (pv 0) pe_str (fun _ _ => rfl)) pa_nil)) pe_int) pa_nil))))
        (pss_one (ps_expr (pe_bm PySem.F.plainAttrs_list PySem.F.slot_list_insert PySem.F.type_list_insert mt_ins (pe_dget (hu_of hr) (pv 0) pe_str (fun _ _ => rfl)) (pa_cons (pv 4) (pa_cons (pv 3) pa_nil))))))
       (pss_nil))
      (pss_one (ps_ret (pv 3)))))), ?_⟩)
  obtain ⟨p, z, j, S, w, R, rfl, ho, hj, hS, h1⟩ := h
  obtain ⟨t, n, c, r, hS⟩ := hS.opW
  have hl := ho.len
  have hd := ho.dl
  have ht := ho.tl
  have ed : (S.deck.map V.int).length = S.deck.length := List.length_map _
  walk_at "go"
  refine y_bml (sqL hS) ?_
  walk_at "s"
  refine x_append hS (by rw [List.length_map]; exact sz (by omega)) fun H hS => ?_
  have e3 : S.q.tunes.map V.str ++ [V.str z] = (S.q.tunes ++ [z]).map V.str := by rw [List.map_append] <;> rfl
  rw [e3] at hS
  walk_at "s"
  refine x_lenL (sqL hS) ?_
  rw [List.length_map, List.length_append, List.length_singleton, show ((S.q.tunes.length + 1 : Nat) : Int) = ((S.q.tunes.length : Nat) : Int) + 1 by omega]
  walk_at "s"
  refine x_slL hS (sqL hS) fun l1 H hS => ?_
  rw [cut_to hj] at hS
  walk_at "s"
  refine x_cat hS (by simp only [List.length_map, List.length_drop, List.length_take, List.length_append, List.length_cons, List.length_nil]; exact sz' (by omega)) fun l2 H hS => ?_
  walk_at "s"
  refine x_slL hS (sqL hS) fun l3 H hS => ?_
  rw [cut_from] at hS
  walk_at "s"
  refine x_cat hS (by simp only [List.length_map, List.length_drop, List.length_take, List.length_append, List.length_cons, List.length_nil]; exact sz' (by omega)) fun l4 H hS => ?_
  have er : (S.q.turn.take j).map V.int ++ [V.int ((S.q.tunes.length : Nat) + 1)] ++ (S.q.turn.drop j).map V.int = (insAt S.q.turn j ((S.q.tunes.length : Nat) + 1)).map V.int := by
    unfold insAt
    rw [List.map_append, List.map_append] <;> rfl
  rw [er] at hS
  walk_at "s"
  cases hm : S.mx with
  | true =>
    have e1 : S.put z j = ⟨S.q.put z j, dnext S.d, true, S.ag, insAt S.deck (dval S.d ((S.deck.length : Nat) + 1)).toNat ((S.q.tunes.length : Nat) + 1), S.gone, S.beh⟩ := by unfold OS.put; rw [hm]
    rw [e1] at h1
    rw [hm] at hS
    walk_at "s"
    refine x_lenL (sqL hS) ?_
    walk_at "s"
    rw [ed]
    refine ⟨c, S.d, _, _, rfl, hS.own c, fun H hS => ?_⟩
    have dv := dval_ok S.d (m := (S.deck.length : Nat) + 1) (by omega)
    walk_at "s"
    refine y_bml (sqL hS) ?_
    walk_at "s"
    refine x_insI hS (by omega) ⟨by omega, by omega⟩ fun H hS => ?_
    replace hS : Sep (pt r (.lst ((insAt S.deck (dval S.d ((S.deck.length : Nat) + 1)).toNat ((S.q.tunes.length : Nat) + 1)).map V.int)) :: _) H := hS
    walk_at "s"
    exact h1 _ (Sep.clW' (⟨⟨insAt S.q.turn j ((S.q.tunes.length : Nat) + 1), S.q.tunes ++ [z]⟩, dnext S.d, true, S.ag, insAt S.deck (dval S.d ((S.deck.length : Nat) + 1)).toNat ((S.q.tunes.length : Nat) + 1), S.gone, S.beh⟩) w l4 n c r hS (by (try simp only [List.map_nil]); repeat (first | exact En.refl | exact En.nil | refine En.cons ?_ | refine En.drop ?_)))
  | false =>
    have e1 : S.put z j = ⟨S.q.put z j, S.d, false, S.ag, S.deck, S.gone, S.beh⟩ := by unfold OS.put; rw [hm]
    rw [e1] at h1
    rw [hm] at hS
    walk_at "s"
    exact h1 _ (Sep.clW' (⟨⟨insAt S.q.turn j ((S.q.tunes.length : Nat) + 1), S.q.tunes ++ [z]⟩, S.d, false, S.ag, S.deck, S.gone, S.beh⟩) w l4 n c r hS (by (try simp only [List.map_nil]); repeat (first | exact En.refl | exact En.nil | refine En.cons ?_ | refine En.drop ?_)))
def sp_l_behind (K : PySem.W.Frag) : Sp := fun vs H Q E => ∃ (p t n c r : Addr) (e : Int) (S : OS) (w : Option Int) (R : List As), vs = [.ref p, .int e] ∧ S.Ok ∧ e ∈ S.q.turn ∧ Sep (pt p (.dK (ownD t n c S.mx S.ag r (oV (gO S.gone S.beh)) (oV w))) :: pt t (.lst (S.q.turn.map V.int)) :: pt n (.lst (S.q.tunes.map V.str)) :: pt c (.lst [.int S.d]) :: pt r (.lst (S.deck.map V.int)) :: R) H ∧
  ∀ H', Sep (pt p (.dK (ownD t n c S.mx S.ag r (oV (gO S.gone S.beh)) (oV w))) :: pt t (.lst (S.q.turn.map V.int)) :: pt n (.lst (S.q.tunes.map V.str)) :: pt c (.lst [.int S.d]) :: pt r (.lst (S.deck.map V.int)) :: R) H' → Q (oV (gO true (S.q.turn[S.q.turn.idxOf e + 1]?))) H'
theorem ln_l_behind : ∀ vs H Q E, sp_l_behind K vs H Q E → vs.length = (["_law_order_here", "_law_entry"] : List Str).length := by
  rintro _ _ _ _ ⟨p, t, n, c, r, e, S, w, R, rfl, _⟩
  rfl
theorem sc_l_behind : FnScope ["_law_order_here", "_law_entry", "_law_at"] ["_law_order_here", "_law_entry"] (defScope s_l_behind) := ⟨rfl, rfl, rfl, by decide +kernel, rfl, by decide +kernel, by decide +kernel⟩
theorem ok_l_behind (T : Top K mg) : OkD P w K mg base d_l_behind 1 ["_law_order_here", "_law_entry"] (sp_l_behind K) := by
  refine okD (df_l_behind T) sc_l_behind (fun _ _ _ _ _ _ us hl => match us, hl with | [_, _], _ => rfl) ln_l_behind (fun cdv A outer s H vs Q E hr h => ⟨_,
      pss_cons (ps_set (i := 2) sc_l_behind.nd rfl (Or.inl rfl) (pe_op op_addA (pe_bm PySem.F.plainAttrs_list PySem.F.slot_list_index PySem.F.type_list_index mt_index (pe_dget (hu_of hr) (pv 0) pe_str (fun _ _ => rfl)) (pa_cons (pv 1) pa_nil)) pe_int))
      (pss_one (ps_ret (pe_ifExp (pt_cmpR op_lt (pv 2) (pe_callB call_lenA (by rfl) (fr_len T) (by decide +kernel) (pa_cons (pe_dget (hu_of hr) (pv 0) pe_str (fun _ _ => rfl)) pa_nil)) (nomark _)) (pe_ix ix_seq (pe_dget (hu_of hr) (pv 0) pe_str (fun _ _ => rfl)) (pv 2) (fun _ _ => rfl)) pe_int))), ?_⟩)
  obtain ⟨p, t, n, c, r, e, S, w, R, rfl, ho, he, hS, h1⟩ := h
  walk_at "go"
  refine y_bml (sqL hS) ?_
  walk_at "s"
  refine x_ixI (sqL hS) he ?_
  walk_at "s"
  refine x_lenL (sqL hS) ?_
  walk_at "s"
  rw [List.length_map]
  refine x_dec (fun h2 => ?_) (fun h2 => ?_)
  · obtain ⟨y, hy⟩ : ∃ y, S.q.turn[S.q.turn.idxOf e + 1]? = some y := ⟨_, List.getElem?_eq_getElem (by omega)⟩
    rw [hy] at h1
    walk_at "s"
    refine x_ixL (sqL hS) (atI_some (v := .int y) (by omega) (by rw [List.getElem?_map, show (((S.q.turn.idxOf e : Nat) : Int) + 1).toNat = S.q.turn.idxOf e + 1 by omega, hy] <;> rfl)) ?_
    walk_at "s"
    exact h1 _ hS
  · rw [List.getElem?_eq_none (by omega)] at h1
    walk_at "s"
    exact h1 _ hS
theorem gone_eq {S : OS} (ho : S.Ok) {e : Int} (he : e ∈ S.q.turn) : (some e = gO S.gone S.beh) ↔ (S.gone = true ∧ some e = S.beh) := by
  have h1 := (ho.pos e he).1
  unfold gO
  cases hg : S.gone with
  | false =>
    constructor
    · intro z; cases z
    · rintro ⟨z, _⟩; cases z
  | true =>
    rw [if_pos rfl]
    cases hb : S.beh with
    | none =>
      constructor
      · intro z
        injection z with z
        have : e = 0 := z
        omega
      · rintro ⟨_, z⟩; cases z
    | some b => exact ⟨fun z => ⟨rfl, z⟩, fun z => z.2⟩
def sp_l_remove (K : PySem.W.Frag) : Sp := fun vs H Q E => ∃ (p : Addr) (e : Int) (now : Option Int) (S : OS) (w : Option Int) (R : List As), vs = [.ref p, .int e, oV now] ∧ S.Ok ∧ e ∈ S.q.turn ∧ Sep (OwnR p S w :: R) H ∧
  ∀ H', Sep (OwnR p (S.remove e now) w :: R) H' → Q .non H'
theorem ln_l_remove : ∀ vs H Q E, sp_l_remove K vs H Q E → vs.length = (["_law_order_here", "_law_entry", "_law_now"] : List Str).length := by
  rintro _ _ _ _ ⟨p, e, now, S, w, R, rfl, _⟩
  rfl
theorem sc_l_remove : FnScope ["_law_order_here", "_law_entry", "_law_now", "_law_one"] ["_law_order_here", "_law_entry", "_law_now"] (defScope s_l_remove) := ⟨rfl, rfl, rfl, by decide +kernel, rfl, by decide +kernel, by decide +kernel⟩
theorem ok_l_remove (T : Top K mg) : OkD P w K mg base d_l_remove 2 ["_law_order_here", "_law_entry", "_law_now"] (sp_l_remove K) := by
  refine okD (df_l_remove T) sc_l_remove (fun _ _ _ _ _ _ us hl => match us, hl with | [_, _, _], _ => rfl) ln_l_remove (fun cdv A outer s H vs Q E hr h => ⟨_,
      pss_cons (ps_if (PW.pt (pw_or (pt_cmpR (op_eqA hr.units) (pv 1) (pv 2) (nomark _)) (pw_or1 (pt_cmpR (op_eqA hr.units) (pv 1) (pe_dget (hu_of hr) (pv 0) pe_str (fun _ _ => rfl)) (nomark _)))))
       (pss_one (ps_dput (hu_of hr) (pv 0) pe_str (px_call (ok_l_behind T) (hr.mono (by decide)) rfl (gl__law_behind T) (fun σ => paD σ) (pa_cons (pv 0) (pa_cons (pv 1) pa_nil))) rfl))
       (pss_nil))
      (pss_cons (ps_dput (hu_of hr) (pv 0) pe_str (pe_lc (own := [("_law_one", 3)]) (g := gName 3) (by rfl) sc_l_remove.nd (pi_list (pe_dget (hu_of hr) (pv 0) pe_str (fun _ _ => rfl))) (blkOk_by (own := [("_law_one", 3)]) (N := ["_law_order_here", "_law_entry", "_law_now", "_law_one"]) (sc := defScope s_l_remove) (by decide +kernel)) (fun _ _ _ _ _ => pg_name (i := 3) sc_l_remove.nd rfl (Or.inl rfl)) (fun _ _ _ _ _ => pts_one (pt_cmpR op_ne (pv 3) (pv 1) (nomark _))) (fun _ _ _ _ _ => pv 3)) rfl)
      (pss_one (ps_dput (hu_of hr) (pv 0) pe_str (pe_lc (own := [("_law_one", 3)]) (g := gName 3) (by rfl) sc_l_remove.nd (pi_list (pe_dget (hu_of hr) (pv 0) pe_str (fun _ _ => rfl))) (blkOk_by (own := [("_law_one", 3)]) (N := ["_law_order_here", "_law_entry", "_law_now", "_law_one"]) (sc := defScope s_l_remove) (by decide +kernel)) (fun _ _ _ _ _ => pg_name (i := 3) sc_l_remove.nd rfl (Or.inl rfl)) (fun _ _ _ _ _ => pts_one (pt_cmpR op_ne (pv 3) (pv 1) (nomark _))) (fun _ _ _ _ _ => pv 3)) rfl))), ?_⟩)
  obtain ⟨p, e, now, S, w, R, rfl, ho, he, hS, h1⟩ := h
  have hl := ho.len
  have hd := ho.dl
  have eq : S.q.remove e = ⟨wo e S.q.turn, S.q.tunes⟩ := by unfold QS.remove; rw [wo_rem ho.nd he]
  unfold OS.remove at h1
  rw [eq] at h1
  obtain ⟨t, n, c, r, hS⟩ := hS.opW
  walk_at "go"
  refine x_eqI1 ?_
  walk_at "s"
  refine x_dec (fun hn => ?_) (fun hn => ?_)
  · have hh : S.hit e now := .inl hn
    rw [if_pos hh] at h1
    walk_at "s"
    refine ⟨p, t, n, c, r, e, S, w, R, rfl, ho, he, hS, fun H hS => ?_⟩
    walk_at "s"
    refine y_lcF (ns := S.q.turn) (fun o => !decide (some o = some e)) hS (by omega) (fun D acc x H hl hS => ?_) (fun l2 H hS => ?_)
    · walk_at "s"
      refine x_neJ (b := some e) ?_
      walk_at "s"
      refine x_ndec (fun hn => ?_) (fun hy => ?_)
      · walk_at "s"
        refine y_el hS (by rw [List.length_map]; omega) fun H hS => ?_
        rw [if_pos (by rw [decide_eq_false hn] <;> rfl), List.map_append]
        exact hS
      · rw [if_neg (by rw [decide_eq_true hy]; intro z; cases z)]
        exact hS
    replace hS : Sep (pt l2 (.lst ((wo e S.q.turn).map V.int)) :: _) H := hS
    walk_at "s"
    refine y_lcF (ns := S.deck) (fun o => !decide (some o = some e)) hS (by omega) (fun D acc x H hl hS => ?_) (fun l3 H hS => ?_)
    · walk_at "s"
      refine x_neJ (b := some e) ?_
      walk_at "s"
      refine x_ndec (fun hn => ?_) (fun hy => ?_)
      · walk_at "s"
        refine y_el hS (by rw [List.length_map]; omega) fun H hS => ?_
        rw [if_pos (by rw [decide_eq_false hn] <;> rfl), List.map_append]
        exact hS
      · rw [if_neg (by rw [decide_eq_true hy]; intro z; cases z)]
        exact hS
    replace hS : Sep (pt l3 (.lst ((wo e S.deck).map V.int)) :: _) H := hS
    walk_at "s"
    exact h1 _ (Sep.clW' (⟨⟨wo e S.q.turn, S.q.tunes⟩, S.d, S.mx, S.ag, wo e S.deck, true, S.q.turn[S.q.turn.idxOf e + 1]?⟩) w l2 n c l3 hS (by (try simp only [List.map_nil]); repeat (first | exact En.refl | exact En.nil | refine En.cons ?_ | refine En.drop ?_)))
  · walk_at "s"
    refine x_eqI1 ?_
    walk_at "s"
    refine x_dec (fun hb => ?_) (fun hb => ?_)
    · have hh : S.hit e now := .inr ((gone_eq ho he).mp hb)
      rw [if_pos hh] at h1
      walk_at "s"
      refine ⟨p, t, n, c, r, e, S, w, R, rfl, ho, he, hS, fun H hS => ?_⟩
      walk_at "s"
      refine y_lcF (ns := S.q.turn) (fun o => !decide (some o = some e)) hS (by omega) (fun D acc x H hl hS => ?_) (fun l2 H hS => ?_)
      · walk_at "s"
        refine x_neJ (b := some e) ?_
        walk_at "s"
        refine x_ndec (fun hn => ?_) (fun hy => ?_)
        · walk_at "s"
          refine y_el hS (by rw [List.length_map]; omega) fun H hS => ?_
          rw [if_pos (by rw [decide_eq_false hn] <;> rfl), List.map_append]
          exact hS
        · rw [if_neg (by rw [decide_eq_true hy]; intro z; cases z)]
          exact hS
      replace hS : Sep (pt l2 (.lst ((wo e S.q.turn).map V.int)) :: _) H := hS
      walk_at "s"
      refine y_lcF (ns := S.deck) (fun o => !decide (some o = some e)) hS (by omega) (fun D acc x H hl hS => ?_) (fun l3 H hS => ?_)
      · walk_at "s"
        refine x_neJ (b := some e) ?_
        walk_at "s"
        refine x_ndec (fun hn => ?_) (fun hy => ?_)
        · walk_at "s"
          refine y_el hS (by rw [List.length_map]; omega) fun H hS => ?_
          rw [if_pos (by rw [decide_eq_false hn] <;> rfl), List.map_append]
          exact hS
        · rw [if_neg (by rw [decide_eq_true hy]; intro z; cases z)]
          exact hS
      replace hS : Sep (pt l3 (.lst ((wo e S.deck).map V.int)) :: _) H := hS
      walk_at "s"
      exact h1 _ (Sep.clW' (⟨⟨wo e S.q.turn, S.q.tunes⟩, S.d, S.mx, S.ag, wo e S.deck, true, S.q.turn[S.q.turn.idxOf e + 1]?⟩) w l2 n c l3 hS (by (try simp only [List.map_nil]); repeat (first | exact En.refl | exact En.nil | refine En.cons ?_ | refine En.drop ?_)))
    · have hh : ¬ S.hit e now := fun z => z.elim hn fun z => hb ((gone_eq ho he).mpr z)
      rw [if_neg hh] at h1
      walk_at "s"
      refine y_lcF (ns := S.q.turn) (fun o => !decide (some o = some e)) hS (by omega) (fun D acc x H hl hS => ?_) (fun l2 H hS => ?_)
      · walk_at "s"
        refine x_neJ (b := some e) ?_
        walk_at "s"
        refine x_ndec (fun hn => ?_) (fun hy => ?_)
        · walk_at "s"
          refine y_el hS (by rw [List.length_map]; omega) fun H hS => ?_
          rw [if_pos (by rw [decide_eq_false hn] <;> rfl), List.map_append]
          exact hS
        · rw [if_neg (by rw [decide_eq_true hy]; intro z; cases z)]
          exact hS
      replace hS : Sep (pt l2 (.lst ((wo e S.q.turn).map V.int)) :: _) H := hS
      walk_at "s"
      refine y_lcF (ns := S.deck) (fun o => !decide (some o = some e)) hS (by omega) (fun D acc x H hl hS => ?_) (fun l3 H hS => ?_)
      · walk_at "s"
        refine x_neJ (b := some e) ?_
        walk_at "s"
        refine x_ndec (fun hn => ?_) (fun hy => ?_)
        · walk_at "s"
          refine y_el hS (by rw [List.length_map]; omega) fun H hS => ?_
          rw [if_pos (by rw [decide_eq_false hn] <;> rfl), List.map_append]
          exact hS
        · rw [if_neg (by rw [decide_eq_true hy]; intro z; cases z)]
          exact hS
      replace hS : Sep (pt l3 (.lst ((wo e S.deck).map V.int)) :: _) H := hS
      walk_at "s"
      exact h1 _ (Sep.clW' (⟨⟨wo e S.q.turn, S.q.tunes⟩, S.d, S.mx, S.ag, wo e S.deck, S.gone, S.beh⟩) w l2 n c l3 hS (by (try simp only [List.map_nil]); repeat (first | exact En.refl | exact En.nil | refine En.cons ?_ | refine En.drop ?_)))
def sp_l_set_mixed (K : PySem.W.Frag) : Sp := fun vs H Q E => ∃ (p : Addr) (b : Bool) (e : Option Int) (S : OS) (w : Option Int) (R : List As), vs = [.ref p, .bl b, oV e] ∧ S.Ok ∧ Sep (OwnR p S w :: R) H ∧ ∀ H', Sep (OwnR p (S.setMixed b e) w :: R) H' → Q .non H'
theorem ln_l_set_mixed : ∀ vs H Q E, sp_l_set_mixed K vs H Q E → vs.length = (["_law_order_here", "_law_is_mixed", "_law_entry"] : List Str).length := by
  rintro _ _ _ _ ⟨p, b, e, S, w, R, rfl, _⟩
  rfl
theorem sc_l_set_mixed : FnScope ["_law_order_here", "_law_is_mixed", "_law_entry", "_law_one"] ["_law_order_here", "_law_is_mixed", "_law_entry"] (defScope s_l_set_mixed) := ⟨rfl, rfl, rfl, by decide +kernel, rfl, by decide +kernel, by decide +kernel⟩
theorem ok_l_set_mixed (T : Top K mg) : OkD P w K mg base d_l_set_mixed 3 ["_law_order_here", "_law_is_mixed", "_law_entry"] (sp_l_set_mixed K) := by
  refine okD (df_l_set_mixed T) sc_l_set_mixed (fun _ _ _ _ _ _ us hl => match us, hl with | [_, _, _], _ => rfl) ln_l_set_mixed (fun cdv A outer s H vs Q E hr h => ⟨_,
      pss_cons (ps_if (PW.pt (pw_and (px_truth (pv 1) (by intro _; rfl)) (pw_and1 (pt_not (px_truth (pe_dget (hu_of hr) (pv 0) pe_str (fun _ _ => rfl)) (by intro _; rfl))))))
       (pss_one (ps_dput (hu_of hr) (pv 0) pe_str (px_call (ok_l_mixed T) (hr.mono (by decide)) rfl (gl__law_mixed T) (fun σ => paD σ) (pa_cons (pe_dget (hu_of hr) (pv 0) pe_str (fun _ _ => rfl)) (pa_cons (pe_lc (own := [("_law_one", 3)]) (g := gName 3) (by rfl) sc_l_set_mixed.nd (pi_list (pe_dget (hu_of hr) (pv 0) pe_str (fun _ _ => rfl))) (blkOk_by (own := [("_law_one", 3)]) (N := ["_law_order_here", "_law_is_mixed", "_law_entry", "_law_one"]) (sc := defScope s_l_set_mixed) (by decide +kernel)) (fun _ _ _ _ _ => pg_name (i := 3) sc_l_set_mixed.nd rfl (Or.inl rfl)) (fun _ _ _ _ _ => pts_one (pt_cmpR op_ne (pv 3) (pv 2) (nomark _))) (fun _ _ _ _ _ => pv 3)) pa_nil))) rfl))
       (pss_nil))
      (pss_cons (ps_if (pt_not (px_truth (pv 1) (by intro _; rfl)))
       (pss_one (ps_dput (hu_of hr) (pv 0) pe_str (pe_lst pa_nil) rfl))
       (pss_nil))
      (pss_one (ps_dput (hu_of hr) (pv 0) pe_str (pv 1) rfl))), ?_⟩)
  obtain ⟨p, b, e, S, w, R, rfl, ho, hS, h1⟩ := h
  have hl := ho.len
  obtain ⟨t, n, c, r, hS⟩ := hS.opW
  walk_at "go"
  cases b with
  | true =>
    walk_at "s"
    cases hm : S.mx with
    | false =>
      have e1 : S.setMixed true e = ⟨S.q, mixSd S.d (S.rest e), true, S.ag, mixN S.d (S.rest e), S.gone, S.beh⟩ := by unfold OS.setMixed; rw [hm]
      rw [e1] at h1
      rw [hm] at hS
      walk_at "s"
      refine y_lcF (ns := S.q.turn) (fun o => !decide (some o = e)) hS (by omega) (fun D acc x H hl hS => ?_) (fun l2 H hS => ?_)
      · walk_at "s"
        refine x_neJ (b := e) ?_
        walk_at "s"
        refine x_ndec (fun hn => ?_) (fun hy => ?_)
        · walk_at "s"
          refine y_el hS (by rw [List.length_map]; omega) fun H hS => ?_
          rw [if_pos (by rw [decide_eq_false hn] <;> rfl), List.map_append]
          exact hS
        · rw [if_neg (by rw [decide_eq_true hy]; intro z; cases z)]
          exact hS
      replace hS : Sep (pt l2 (.lst ((S.rest e).map V.int)) :: _) H := hS
      walk_at "s"
      have hr := rest_len ho e
      refine ⟨c, l2, S.d, (S.rest e).map V.int, _, rfl, by rw [List.length_map]; omega, hS.own2 c l2, fun l3 H hS => ?_⟩
      rw [mixN_eq] at hS
      replace hS : Sep (pt l3 (.lst ((mixN S.d (S.rest e)).map V.int)) :: pt c (.lst [.int (mixSd S.d (S.rest e))]) :: _) H := hS
      walk_at "s"
      exact h1 _ (Sep.clW' (⟨S.q, mixSd S.d (S.rest e), true, S.ag, mixN S.d (S.rest e), S.gone, S.beh⟩) w t n c l3 hS (by (try simp only [List.map_nil]); repeat (first | exact En.refl | exact En.nil | refine En.cons ?_ | refine En.drop ?_)))
    | true =>
      have e1 : S.setMixed true e = ⟨S.q, S.d, true, S.ag, S.deck, S.gone, S.beh⟩ := by
        unfold OS.setMixed
        rw [hm]
        exact S.mx_eq hm
      rw [e1] at h1
      rw [hm] at hS
      walk_at "s"
      exact h1 _ (Sep.clW' (⟨S.q, S.d, true, S.ag, S.deck, S.gone, S.beh⟩) w t n c r hS (by (try simp only [List.map_nil]); repeat (first | exact En.refl | exact En.nil | refine En.cons ?_ | refine En.drop ?_)))
  | false =>
    walk_at "s"
    rename Addr => k2
    exact h1 _ (Sep.clW' (⟨S.q, S.d, false, S.ag, [], S.gone, S.beh⟩) w t n c k2 hS (by (try simp only [List.map_nil]); repeat (first | exact En.refl | exact En.nil | refine En.cons ?_ | refine En.drop ?_)))
def sp_l_began (K : PySem.W.Frag) : Sp := fun vs H Q E => ∃ (p : Addr) (e : Int) (S : OS) (w : Option Int) (R : List As), vs = [.ref p, .int e] ∧ S.Ok ∧ Sep (OwnR p S w :: R) H ∧ ∀ H', Sep (OwnR p (S.began e) w :: R) H' → Q .non H'
theorem ln_l_began : ∀ vs H Q E, sp_l_began K vs H Q E → vs.length = (["_law_order_here", "_law_entry"] : List Str).length := by
  rintro _ _ _ _ ⟨p, e, S, w, R, rfl, _⟩
  rfl
theorem sc_l_began : FnScope ["_law_order_here", "_law_entry", "_law_one"] ["_law_order_here", "_law_entry"] (defScope s_l_began) := ⟨rfl, rfl, rfl, by decide +kernel, rfl, by decide +kernel, by decide +kernel⟩
theorem ok_l_began (T : Top K mg) : OkD P w K mg base d_l_began 1 ["_law_order_here", "_law_entry"] (sp_l_began K) := by
  refine okD (df_l_began T) sc_l_began (fun _ _ _ _ _ _ us hl => match us, hl with | [_, _], _ => rfl) ln_l_began (fun cdv A outer s H vs Q E hr h => ⟨_,
      pss_cons (ps_if (pt_cmpR op_in_seq (pv 1) (pe_dget (hu_of hr) (pv 0) pe_str (fun _ _ => rfl)) (by rfl))
       (pss_one (ps_dput (hu_of hr) (pv 0) pe_str pe_non rfl))
       (pss_nil))
      (pss_one (ps_dput (hu_of hr) (pv 0) pe_str (pe_lc (own := [("_law_one", 2)]) (g := gName 2) (by rfl) sc_l_began.nd (pi_list (pe_dget (hu_of hr) (pv 0) pe_str (fun _ _ => rfl))) (blkOk_by (own := [("_law_one", 2)]) (N := ["_law_order_here", "_law_entry", "_law_one"]) (sc := defScope s_l_began) (by decide +kernel)) (fun _ _ _ _ _ => pg_name (i := 2) sc_l_began.nd rfl (Or.inl rfl)) (fun _ _ _ _ _ => pts_one (pt_cmpR op_ne (pv 2) (pv 1) (nomark _))) (fun _ _ _ _ _ => pv 2)) rfl)), ?_⟩)
  obtain ⟨p, e, S, w, R, rfl, ho, hS, h1⟩ := h
  have hd := ho.dl
  obtain ⟨t, n, c, r, hS⟩ := hS.opW
  walk_at "go"
  refine x_inI (sqL hS) ?_
  walk_at "s"
  unfold OS.began at h1
  refine x_dec (fun he => ?_) (fun he => ?_)
  · rw [if_pos he] at h1
    walk_at "s"
    replace hS : Sep (pt p (.dK (ownD t n c S.mx S.ag r (oV (gO false S.beh)) (oV w))) :: _) H := hS
    refine y_lcF (ns := S.deck) (fun o => !decide (some o = some e)) hS (by omega) (fun D acc x H hl hS => ?_) (fun l3 H hS => ?_)
    · walk_at "s"
      refine x_neJ (b := some e) ?_
      walk_at "s"
      refine x_ndec (fun hn => ?_) (fun hy => ?_)
      · walk_at "s"
        refine y_el hS (by rw [List.length_map]; omega) fun H hS => ?_
        rw [if_pos (by rw [decide_eq_false hn] <;> rfl), List.map_append]
        exact hS
      · rw [if_neg (by rw [decide_eq_true hy]; intro z; cases z)]
        exact hS
    replace hS : Sep (pt l3 (.lst ((wo e S.deck).map V.int)) :: _) H := hS
    walk_at "s"
    exact h1 _ (Sep.clW' (⟨S.q, S.d, S.mx, S.ag, wo e S.deck, false, S.beh⟩) w t n c l3 hS (by (try simp only [List.map_nil]); repeat (first | exact En.refl | exact En.nil | refine En.cons ?_ | refine En.drop ?_)))
  · rw [if_neg he] at h1
    walk_at "s"
    refine y_lcF (ns := S.deck) (fun o => !decide (some o = some e)) hS (by omega) (fun D acc x H hl hS => ?_) (fun l3 H hS => ?_)
    · walk_at "s"
      refine x_neJ (b := some e) ?_
      walk_at "s"
      refine x_ndec (fun hn => ?_) (fun hy => ?_)
      · walk_at "s"
        refine y_el hS (by rw [List.length_map]; omega) fun H hS => ?_
        rw [if_pos (by rw [decide_eq_false hn] <;> rfl), List.map_append]
        exact hS
      · rw [if_neg (by rw [decide_eq_true hy]; intro z; cases z)]
        exact hS
    replace hS : Sep (pt l3 (.lst ((wo e S.deck).map V.int)) :: _) H := hS
    walk_at "s"
    exact h1 _ (Sep.clW' (⟨S.q, S.d, S.mx, S.ag, wo e S.deck, S.gone, S.beh⟩) w t n c l3 hS (by (try simp only [List.map_nil]); repeat (first | exact En.refl | exact En.nil | refine En.cons ?_ | refine En.drop ?_)))

end
end TR

set_option Elab.async false
set_option linter.all false
set_option maxRecDepth 100000
set_option maxHeartbeats 4000000
/-! .. -/

namespace TR
open PySem PySem.Spec PyProof.Rows L2
section
variable {P : Program} {w : World} {K : PySem.W.Frag} {mg : Str → Option Value} {base : Heap}
/-! ### the law's own order: what comes -/
def sp_l_first (K : PySem.W.Frag) : Sp := fun vs H Q E => ∃ (p : Addr) (S : OS) (w : Option Int) (R : List As), vs = [.ref p] ∧ S.Ok ∧ Sep (OwnR p S w :: R) H ∧ ∀ H', Sep (OwnR p S.first.1 w :: R) H' → Q (oV S.first.2) H'
theorem ln_l_first : ∀ vs H Q E, sp_l_first K vs H Q E → vs.length = (["_law_order_here"] : List Str).length := by
  rintro _ _ _ _ ⟨p, S, w, R, rfl, _⟩
  rfl
theorem sc_l_first : FnScope ["_law_order_here"] ["_law_order_here"] (defScope s_l_first) := ⟨rfl, rfl, rfl, by decide +kernel, rfl, by decide +kernel, by decide +kernel⟩
theorem ok_l_first (T : Top K mg) : OkD P w K mg base d_l_first 3 ["_law_order_here"] (sp_l_first K) := by
  refine okD (df_l_first T) sc_l_first (fun _ _ _ _ _ _ us hl => match us, hl with | [_], _ => rfl) ln_l_first (fun cdv A outer s H vs Q E hr h => ⟨_,
      pss_cons (ps_if (pt_not (px_truth (pe_dget (hu_of hr) (pv 0) pe_str (fun _ _ => rfl)) (by intro _; rfl)))
       (pss_one (ps_ret (pe_ifExp (pt_cmpR (op_neA hr.units) (pe_dget (hu_of hr) (pv 0) pe_str (fun _ _ => rfl)) (pe_lst pa_nil) (nomark _)) (pe_ix ix_seq (pe_dget (hu_of hr) (pv 0) pe_str (fun _ _ => rfl)) pe_int (fun _ _ => rfl)) pe_non)))
       (pss_nil))
      (pss_cons (ps_if (pt_cmpR (op_eqA hr.units) (pe_dget (hu_of hr) (pv 0) pe_str (fun _ _ => rfl)) (pe_lst pa_nil) (nomark _))
       (pss_one (ps_dput (hu_of hr) (pv 0) pe_str (px_call (ok_l_mixed T) (hr.mono (by decide)) rfl (gl__law_mixed T) (fun σ => paD σ) (pa_cons (pe_dget (hu_of hr) (pv 0) pe_str (fun _ _ => rfl)) (pa_cons (pe_dget (hu_of hr) (pv 0) pe_str (fun _ _ => rfl)) pa_nil))) rfl))
       (pss_nil))
      (pss_one (ps_ret (pe_ifExp (pt_cmpR (op_neA hr.units) (pe_dget (hu_of hr) (pv 0) pe_str (fun _ _ => rfl)) (pe_lst pa_nil) (nomark _)) (pe_bm PySem.F.plainAttrs_list PySem.F.slot_list_pop PySem.F.type_list_pop mt_popAt (pe_dget (hu_of hr) (pv 0) pe_str (fun _ _ => rfl)) (pa_cons pe_int pa_nil)) pe_non)))), ?_⟩)
  obtain ⟨p, S, w, R, rfl, ho, hS, h1⟩ := h
  obtain ⟨t, n, c, r, hS⟩ := hS.opW
  have hl := ho.len
  walk_at "go"
  unfold OS.first at h1
  cases hm : S.mx with
  | false =>
    rw [hm] at h1 hS
    walk_at "s"
    refine x_neLn (sqL hS) (sqL hS) ?_
    cases ht : S.q.turn with
    | nil =>
      rw [ht] at h1
      walk_at "s"
      exact h1 _ (by rw [S.mx_eq hm]; exact (Sep.clW' (⟨S.q, S.d, false, S.ag, S.deck, S.gone, S.beh⟩) w t n c r hS (by (try simp only [List.map_nil]); repeat (first | exact En.refl | exact En.nil | refine En.cons ?_ | refine En.drop ?_))))
    | cons x y =>
      rw [ht] at h1
      walk_at "s"
      refine x_yes rfl ?_
      walk_at "s"
      refine x_ixL (sqL hS) (atI_nat (j := 0) (v := .int x) (by rw [ht] <;> rfl)) ?_
      walk_at "s"
      exact h1 _ (by rw [S.mx_eq hm]; exact (Sep.clW' (⟨S.q, S.d, false, S.ag, S.deck, S.gone, S.beh⟩) w t n c r hS (by (try simp only [List.map_nil]); repeat (first | exact En.refl | exact En.nil | refine En.cons ?_ | refine En.drop ?_))))
  | true =>
    rw [hm] at h1 hS
    walk_at "s"
    refine x_eqLn (sqL hS) (sqL hS) ?_
    cases hd : S.deck with
    | nil =>
      rw [hd] at hS
      rw [if_pos hd] at h1
      walk_at "s"
      refine x_yes rfl ?_
      walk_at "s"
      refine ⟨c, t, S.d, S.q.turn.map V.int, _, rfl, by rw [List.length_map]; omega, hS.own2 c t, fun l3 H hS => ?_⟩
      rw [mixN_eq] at hS
      replace hS : Sep (pt l3 (.lst ((mixN S.d S.q.turn).map V.int)) :: pt c (.lst [.int (mixSd S.d S.q.turn)]) :: _) H := hS
      walk_at "s"
      refine x_neLn (sqL hS) (sqL hS) ?_
      unfold OS.pop OS.deal at h1
      dsimp only [id] at h1
      cases hx : mixN S.d S.q.turn with
      | nil =>
        rw [hx] at h1 hS
        walk_at "s"
        exact h1 _ (by rw [hm]; exact (Sep.clW' (⟨S.q, mixSd S.d S.q.turn, true, S.ag, [], S.gone, S.beh⟩) w t n c l3 hS (by (try simp only [List.map_nil]); repeat (first | exact En.refl | exact En.nil | refine En.cons ?_ | refine En.drop ?_))))
      | cons x y =>
        rw [hx] at h1 hS
        walk_at "s"
        refine x_yes rfl ?_
        walk_at "s"
        refine y_bml (sqL hS) ?_
        walk_at "s"
        refine x_pop0 hS fun H hS => ?_
        walk_at "s"
        exact h1 _ (by rw [hm]; exact (Sep.clW' (⟨S.q, mixSd S.d S.q.turn, true, S.ag, y, S.gone, S.beh⟩) w t n c l3 hS (by (try simp only [List.map_nil]); repeat (first | exact En.refl | exact En.nil | refine En.cons ?_ | refine En.drop ?_))))
    | cons x y =>
      rw [hd] at hS
      rw [if_neg (by rw [hd]; intro z; cases z)] at h1
      unfold OS.pop at h1
      rw [hd] at h1
      walk_at "s"
      refine x_no rfl ?_
      walk_at "s"
      refine x_neLn (ns := x :: y) (sqL hS) (sqL hS) ?_
      walk_at "s"
      refine x_yes rfl ?_
      walk_at "s"
      refine y_bml (sqL hS) ?_
      walk_at "s"
      refine x_pop0 hS fun H hS => ?_
      walk_at "s"
      exact h1 _ (by rw [hm]; exact (Sep.clW' (⟨S.q, S.d, true, S.ag, y, S.gone, S.beh⟩) w t n c r hS (by (try simp only [List.map_nil]); repeat (first | exact En.refl | exact En.nil | refine En.cons ?_ | refine En.drop ?_))))
theorem atI_last {ns : List Int} {y : Int} (h : 1 < ns.length) (hy : ns[ns.length - 1]? = some y) : atI (ns.map V.int) (-1) = some (.int y) := by
  have e : ixN (ns.map V.int).length (-1) = some (ns.length - 1) := by
    unfold ixN
    rw [if_neg (by decide), List.length_map, if_pos (by omega), show ((-1 : Int) + (ns.length : Nat)).toNat = ns.length - 1 by omega]
  unfold atI
  rw [e]
  show (ns.map V.int)[ns.length - 1]? = _
  rw [List.getElem?_map, hy] <;> rfl
theorem rot_eq {ns : List Int} {x y : Int} (h : 1 < ns.length) (hx : ns[0]? = some x) (hy : ns[ns.length - 1]? = some y) : rot ns = [y] ++ ((ns.drop 1).take (ns.length - 1 - 1)) ++ [x] := by
  have e1 : ns.drop (ns.length - 1) = [y] := by
    rw [List.drop_eq_getElem_cons (by omega), List.drop_of_length_le (by omega)]
    have := (List.getElem?_eq_some_iff.mp hy).2
    rw [this]
  have e2 : ns.take 1 = [x] := by
    cases ns with
    | nil => cases hx
    | cons a r =>
      cases hx
      rfl
  unfold rot
  rw [e1, e2]
/-- the law's end of a plain turn -/
def OS.fin (S : OS) (F : Int) : Option Int := if F = 0 ∧ S.ag = "all" then S.q.turn[0]? else if F = 0 then none else some F
theorem law_has {S : OS} (ho : S.Ok) {i : Int} (hi : i ∈ S.q.turn) : S.nextP (some i) = S.fin ((S.q.turn[S.q.turn.idxOf i + 1]?).getD 0) := by
  have hh : hasO (some i) S.q.turn = true := decide_eq_true hi
  have hat : S.at_ (some i) = S.q.turn.idxOf i + 1 := by
    unfold OS.at_
    rw [if_pos hh]
  unfold OS.nextP OS.fin
  rw [hat]
  by_cases h : S.q.turn.idxOf i + 1 < S.q.turn.length
  · rw [if_pos h, List.getElem?_eq_getElem h]
    have hp := (ho.pos _ (List.getElem_mem h)).1
    have hp' : ¬ ((some S.q.turn[S.q.turn.idxOf i + 1]).getD 0 = 0) := by
      show ¬ S.q.turn[S.q.turn.idxOf i + 1] = 0
      omega
    rw [if_neg (fun z => hp' z.1), if_neg hp'] <;> rfl
  · have hz : S.q.turn[S.q.turn.idxOf i + 1]? = none := List.getElem?_eq_none (by omega)
    rw [if_neg h, hz]
    by_cases ha : S.ag = "all"
    · rw [if_pos ha, if_pos ⟨rfl, ha⟩]
    · rw [if_neg ha, if_neg (fun z => ha z.2), if_pos (show (none : Option Int).getD 0 = 0 from rfl)]
theorem law_gone {S : OS} (ho : S.Ok) {e : Option Int} (hn : ¬ hasO e S.q.turn = true) (hg : S.gone = true) : S.nextP e = S.fin (S.beh.getD 0) := by
  unfold OS.nextP OS.fin
  cases hb : S.beh with
  | none =>
    have hat : S.at_ e = S.q.turn.length := by
      unfold OS.at_
      rw [if_neg hn, if_pos hg, hb]
    rw [hat, if_neg (Nat.lt_irrefl _)]
    by_cases ha : S.ag = "all"
    · rw [if_pos ha, if_pos ⟨rfl, ha⟩]
    · rw [if_neg ha, if_neg (fun z => ha z.2), if_pos (show (none : Option Int).getD 0 = 0 from rfl)]
  | some b =>
    have hat : S.at_ e = S.q.turn.idxOf b := by
      unfold OS.at_
      rw [if_neg hn, if_pos hg, hb]
    have hm := ho.bh b hg hb
    have hp := (ho.pos _ hm).1
    have hp' : ¬ ((some b).getD 0 = 0) := by
      show ¬ b = 0
      omega
    rw [hat, if_pos (List.idxOf_lt_length_of_mem hm), (first_ix hm).1, if_neg (fun z => hp' z.1), if_neg hp'] <;> rfl
theorem law_new {S : OS} (ho : S.Ok) {e : Option Int} (hn : ¬ hasO e S.q.turn = true) (hg : S.gone = false) : S.nextP e = S.fin ((S.q.turn[0]?).getD 0) := by
  have hat : S.at_ e = 0 := by
    unfold OS.at_
    rw [if_neg hn, if_neg (by rw [hg]; intro z; cases z)]
  unfold OS.nextP OS.fin
  rw [hat]
  by_cases h : 0 < S.q.turn.length
  · rw [if_pos h, List.getElem?_eq_getElem h]
    have hp := (ho.pos _ (List.getElem_mem h)).1
    have hp' : ¬ ((some S.q.turn[0]).getD 0 = 0) := by
      show ¬ S.q.turn[0] = 0
      omega
    rw [if_neg (fun z => hp' z.1), if_neg hp'] <;> rfl
  · rw [if_neg h, List.getElem?_eq_none (by omega)]
    by_cases ha : S.ag = "all"
    · rw [if_pos ha, if_pos ⟨rfl, ha⟩]
    · rw [if_neg ha, if_neg (fun z => ha z.2), if_pos (show (none : Option Int).getD 0 = 0 from rfl)]
theorem x_cI {i j : Int} {σ : L2.St} {H : Hp} {Q : VK} (e : i = j) (q : Q (.int j) H) : tC (.int i) σ H Q := e ▸ q
def sp_l_skip (K : PySem.W.Frag) : Sp := fun vs H Q E => ∃ (p : Addr) (e : Option Int) (S : OS) (w : Option Int) (R : List As), vs = [.ref p, oV e] ∧ S.Ok ∧ Sep (OwnR p S w :: R) H ∧ ∀ H', Sep (OwnR p (S.skip e).1 w :: R) H' → Q (oV (S.skip e).2) H'
theorem ln_l_skip : ∀ vs H Q E, sp_l_skip K vs H Q E → vs.length = (["_law_order_here", "_law_entry"] : List Str).length := by
  rintro _ _ _ _ ⟨p, e, S, w, R, rfl, _⟩
  rfl
theorem sc_l_skip : FnScope ["_law_order_here", "_law_entry", "_law_turn", "_law_found"] ["_law_order_here", "_law_entry"] (defScope s_l_skip) := ⟨rfl, rfl, rfl, by decide +kernel, rfl, by decide +kernel, by decide +kernel⟩
theorem ok_l_skip (T : Top K mg) : OkD P w K mg base d_l_skip 3 ["_law_order_here", "_law_entry"] (sp_l_skip K) := by
  refine okD (df_l_skip T) sc_l_skip (fun _ _ _ _ _ _ us hl => match us, hl with | [_, _], _ => rfl) ln_l_skip (fun cdv A outer s H vs Q E hr h => ⟨_,
      pss_cons (ps_set (i := 2) sc_l_skip.nd rfl (Or.inl rfl) (pe_dget (hu_of hr) (pv 0) pe_str (fun _ _ => rfl)))
      (pss_cons (ps_if (px_truth (pe_dget (hu_of hr) (pv 0) pe_str (fun _ _ => rfl)) (by intro _; rfl))
       (pss_cons (ps_if (PW.pt (pw_and (pt_cmpR (op_eqA hr.units) (pe_dget (hu_of hr) (pv 0) pe_str (fun _ _ => rfl)) (pe_lst pa_nil) (nomark _)) (pw_and1 (pt_cmpR (op_eqA hr.units) (pe_dget (hu_of hr) (pv 0) pe_str (fun _ _ => rfl)) pe_str (nomark _)))))
         (pss_cons (ps_set (i := 3) sc_l_skip.nd rfl (Or.inl rfl) (px_call (ok_l_mixed T) (hr.mono (by decide)) rfl (gl__law_mixed T) (fun σ => paD σ) (pa_cons (pe_dget (hu_of hr) (pv 0) pe_str (fun _ _ => rfl)) (pa_cons (pv 2) pa_nil))))
          (pss_cons (ps_if (PW.pt (pw_and (pt_cmpR op_gt (pe_callB call_lenA (by rfl) (fr_len T) (by decide +kernel) (pa_cons (pv 3) pa_nil)) pe_int (nomark _)) (pw_and1 (pt_cmpR (op_eqA hr.units) (pe_ix ix_seq (pv 3) pe_int (fun _ _ => rfl)) (pv 1) (nomark _)))))
           (pss_one (ps_set (i := 3) sc_l_skip.nd rfl (Or.inl rfl) (pe_op op_addA (pe_op op_addA (pe_lst (pa_cons (pe_ix ix_seq (pv 3) (pe_un un_neg pe_int) (fun _ _ => rfl)) pa_nil)) (pe_slice sl_list (pv 3) (po_some pe_int) (po_some (pe_un un_neg pe_int)))) (pe_lst (pa_cons (pe_ix ix_seq (pv 3) pe_int (fun _ _ => rfl)) pa_nil)))))
           (pss_nil))
          (pss_one (ps_dput (hu_of hr) (pv 0) pe_str (pv 3) rfl))))
         (pss_nil))
        (pss_one (ps_ret (pe_ifExp (pt_cmpR (op_neA hr.units) (pe_dget (hu_of hr) (pv 0) pe_str (fun _ _ => rfl)) (pe_lst pa_nil) (nomark _)) (pe_bm PySem.F.plainAttrs_list PySem.F.slot_list_pop PySem.F.type_list_pop mt_popAt (pe_dget (hu_of hr) (pv 0) pe_str (fun _ _ => rfl)) (pa_cons pe_int pa_nil)) pe_non))))
       (pss_nil))
      (pss_cons (ps_set (i := 3) sc_l_skip.nd rfl (Or.inl rfl) (pe_ifExp (pt_cmpR (op_neA hr.units) (pv 2) (pe_lst pa_nil) (nomark _)) (pe_ix ix_seq (pv 2) pe_int (fun _ _ => rfl)) pe_int))
      (pss_cons (ps_if (pt_cmpR op_in_seq (pv 1) (pv 2) (by rfl))
       (pss_one (ps_set (i := 3) sc_l_skip.nd rfl (Or.inl rfl) (px_call (ok_l_behind T) (hr.mono (by decide)) rfl (gl__law_behind T) (fun σ => paD σ) (pa_cons (pv 0) (pa_cons (pv 1) pa_nil)))))
       (pss_one (ps_if (pt_cmpR op_notN1 (pe_dget (hu_of hr) (pv 0) pe_str (fun _ _ => rfl)) pe_non (nomark _))
         (pss_one (ps_set (i := 3) sc_l_skip.nd rfl (Or.inl rfl) (pe_dget (hu_of hr) (pv 0) pe_str (fun _ _ => rfl))))
         (pss_nil))))
      (pss_cons (ps_if (PW.pt (pw_and (pt_cmpR (op_eqA hr.units) (pv 3) pe_int (nomark _)) (pw_and (pt_cmpR (op_eqA hr.units) (pe_dget (hu_of hr) (pv 0) pe_str (fun _ _ => rfl)) pe_str (nomark _)) (pw_and1 (pt_cmpR (op_neA hr.units) (pv 2) (pe_lst pa_nil) (nomark _))))))
       (pss_one (ps_set (i := 3) sc_l_skip.nd rfl (Or.inl rfl) (pe_ix ix_seq (pv 2) pe_int (fun _ _ => rfl))))
       (pss_nil))
      (pss_one (ps_ret (pe_ifExp (pt_cmpR (op_neA hr.units) (pv 3) pe_int (nomark _)) (pv 3) pe_non))))))), ?_⟩)
  obtain ⟨p, e, S, w, R, rfl, ho, hS, h1⟩ := h
  obtain ⟨t, n, c, r, hS⟩ := hS.opW
  have hl := ho.len
  walk_at "go"
  unfold OS.skip at h1
  cases hm : S.mx with
  | true =>
    rw [hm] at h1 hS
    unfold OS.nextM at h1
    walk_at "s"
    refine x_eqLn (ns := S.deck) (sqL hS) (sqL hS) ?_
    cases hd : S.deck with
    | cons x y =>
      rw [hd] at hS
      rw [if_neg (by rw [hd]; rintro ⟨z, _⟩; cases z)] at h1
      unfold OS.pop at h1
      rw [hd] at h1
      walk_at "s"
      refine x_no rfl ?_
      walk_at "s"
      refine x_neLn (ns := x :: y) (sqL hS) (sqL hS) ?_
      walk_at "s"
      refine x_yes rfl ?_
      walk_at "s"
      refine y_bml (sqL hS) ?_
      walk_at "s"
      refine x_pop0 hS fun H hS => ?_
      walk_at "s"
      exact h1 _ (by rw [hm]; exact (Sep.clW' (⟨S.q, S.d, true, S.ag, y, S.gone, S.beh⟩) w t n c r hS (by (try simp only [List.map_nil]); repeat (first | exact En.refl | exact En.nil | refine En.cons ?_ | refine En.drop ?_))))
    | nil =>
      rw [hd] at hS
      walk_at "s"
      refine x_yes rfl ?_
      walk_at "s"
      refine x_eqS rfl ?_
      walk_at "s"
      refine x_dec (fun ha => ?_) (fun ha => ?_)
      · have ha' : S.ag = "all" := by injection ha
        rw [if_pos ⟨hd, ha'⟩] at h1
        walk_at "s"
        refine ⟨c, t, S.d, S.q.turn.map V.int, _, rfl, by rw [List.length_map]; omega, hS.own2 c t, fun l3 H hS => ?_⟩
        rw [mixN_eq] at hS
        replace hS : Sep (pt l3 (.lst ((mixN S.d S.q.turn).map V.int)) :: pt c (.lst [.int (mixSd S.d S.q.turn)]) :: _) H := hS
        unfold OS.pop OS.deal at h1
        dsimp only at h1
        rw [hm] at h1
        obtain ⟨xs, hx⟩ : ∃ xs, xs = mixN S.d S.q.turn := ⟨_, rfl⟩
        rw [← hx] at h1 hS
        have hxl : xs.length ≤ 12 := by rw [hx, (mixN_perm S.d S.q.turn).length_eq]; exact hl
        have exl : (xs.map V.int).length = xs.length := List.length_map _
        walk_at "s"
        refine x_lenL (sqL hS) ?_
        walk_at "s"
        rw [exl]
        refine x_dec (fun h2 => ?_) (fun h2 => ?_)
        · have h2' : 1 < xs.length := by omega
          obtain ⟨x0, hx0⟩ : ∃ x0, xs[0]? = some x0 := ⟨_, List.getElem?_eq_getElem (by omega)⟩
          obtain ⟨y0, hy0⟩ : ∃ y0, xs[xs.length - 1]? = some y0 := ⟨_, List.getElem?_eq_getElem (by omega)⟩
          walk_at "s"
          refine x_ixL (sqL hS) (atI_nat (j := 0) (v := .int x0) (by rw [List.getElem?_map, hx0] <;> rfl)) ?_
          walk_at "s"
          refine x_eqI1 ?_
          walk_at "s"
          refine x_dec (fun h3 => ?_) (fun h3 => ?_)
          · have et : turnD e xs = rot xs := if_pos ⟨h2', hx0.trans h3⟩
            rw [et] at h1
            walk_at "s"
            refine x_ixL (sqL hS) (atI_last h2' hy0) ?_
            walk_at "s"
            refine x_slL hS (sqL hS) fun l5 H hS => ?_
            rw [cut_mid h2'] at hS
            walk_at "s"
            refine x_cat hS (by simp only [List.length_map, List.length_drop, List.length_take, List.length_append, List.length_cons, List.length_nil]; exact sz' (by omega)) fun l6 H hS => ?_
            walk_at "s"
            refine x_ixL (sqL hS) (atI_nat (j := 0) (v := .int x0) (by rw [List.getElem?_map, hx0] <;> rfl)) ?_
            walk_at "s"
            refine x_cat hS (by simp only [List.length_map, List.length_drop, List.length_take, List.length_append, List.length_cons, List.length_nil]; exact sz' (by omega)) fun l8 H hS => ?_
            have er : [V.int y0] ++ ((xs.drop 1).take (xs.length - 1 - 1)).map V.int ++ [V.int x0] = (rot xs).map V.int := by
              rw [rot_eq h2' hx0 hy0, List.map_append, List.map_append] <;> rfl
            rw [er] at hS
            obtain ⟨ys, hys⟩ : ∃ ys, ys = rot xs := ⟨_, rfl⟩
            rw [← hys] at h1 hS
            walk_at "s"
            refine x_neLn (ns := ys) (sqL hS) (sqL hS) ?_
            cases hy : ys with
            | nil =>
              rw [hy] at h1 hS
              walk_at "s"
              exact h1 _ (Sep.clW' (⟨S.q, mixSd S.d S.q.turn, true, S.ag, [], S.gone, S.beh⟩) w t n c l8 hS (by (try simp only [List.map_nil]); repeat (first | exact En.refl | exact En.nil | refine En.cons ?_ | refine En.drop ?_)))
            | cons y r0 =>
              rw [hy] at h1 hS
              walk_at "s"
              refine x_yes rfl ?_
              walk_at "s"
              refine y_bml (sqL hS) ?_
              walk_at "s"
              refine x_pop0 hS fun H hS => ?_
              walk_at "s"
              exact h1 _ (Sep.clW' (⟨S.q, mixSd S.d S.q.turn, true, S.ag, r0, S.gone, S.beh⟩) w t n c l8 hS (by (try simp only [List.map_nil]); repeat (first | exact En.refl | exact En.nil | refine En.cons ?_ | refine En.drop ?_)))
          · have et : turnD e xs = xs := if_neg fun z => h3 (hx0.symm.trans z.2)
            rw [et] at h1
            clear hx
            obtain ⟨ys, hys⟩ : ∃ ys, ys = xs := ⟨_, rfl⟩
            rw [← hys] at h1 hS
            walk_at "s"
            refine x_neLn (ns := ys) (sqL hS) (sqL hS) ?_
            cases hy : ys with
            | nil =>
              rw [hy] at h1 hS
              walk_at "s"
              exact h1 _ (Sep.clW' (⟨S.q, mixSd S.d S.q.turn, true, S.ag, [], S.gone, S.beh⟩) w t n c l3 hS (by (try simp only [List.map_nil]); repeat (first | exact En.refl | exact En.nil | refine En.cons ?_ | refine En.drop ?_)))
            | cons y r0 =>
              rw [hy] at h1 hS
              walk_at "s"
              refine x_yes rfl ?_
              walk_at "s"
              refine y_bml (sqL hS) ?_
              walk_at "s"
              refine x_pop0 hS fun H hS => ?_
              walk_at "s"
              exact h1 _ (Sep.clW' (⟨S.q, mixSd S.d S.q.turn, true, S.ag, r0, S.gone, S.beh⟩) w t n c l3 hS (by (try simp only [List.map_nil]); repeat (first | exact En.refl | exact En.nil | refine En.cons ?_ | refine En.drop ?_)))
        · have et : turnD e xs = xs := if_neg fun z => h2 (by omega)
          rw [et] at h1
          clear hx
          obtain ⟨ys, hys⟩ : ∃ ys, ys = xs := ⟨_, rfl⟩
          rw [← hys] at h1 hS
          walk_at "s"
          refine x_neLn (ns := ys) (sqL hS) (sqL hS) ?_
          cases hy : ys with
          | nil =>
            rw [hy] at h1 hS
            walk_at "s"
            exact h1 _ (Sep.clW' (⟨S.q, mixSd S.d S.q.turn, true, S.ag, [], S.gone, S.beh⟩) w t n c l3 hS (by (try simp only [List.map_nil]); repeat (first | exact En.refl | exact En.nil | refine En.cons ?_ | refine En.drop ?_)))
          | cons y r0 =>
            rw [hy] at h1 hS
            walk_at "s"
            refine x_yes rfl ?_
            walk_at "s"
            refine y_bml (sqL hS) ?_
            walk_at "s"
            refine x_pop0 hS fun H hS => ?_
            walk_at "s"
            exact h1 _ (Sep.clW' (⟨S.q, mixSd S.d S.q.turn, true, S.ag, r0, S.gone, S.beh⟩) w t n c l3 hS (by (try simp only [List.map_nil]); repeat (first | exact En.refl | exact En.nil | refine En.cons ?_ | refine En.drop ?_)))
      · rw [if_neg (fun z => ha (by rw [z.2]))] at h1
        unfold OS.pop at h1
        rw [hd] at h1
        walk_at "s"
        refine x_neLn (ns := []) (sqL hS) (sqL hS) ?_
        walk_at "s"
        refine x_no rfl ?_
        walk_at "s"
        exact h1 _ (by rw [S.dk_eq hd, hm]; exact (Sep.clW' (⟨S.q, S.d, true, S.ag, [], S.gone, S.beh⟩) w t n c r hS (by (try simp only [List.map_nil]); repeat (first | exact En.refl | exact En.nil | refine En.cons ?_ | refine En.drop ?_))))
  | false =>
    rw [hm] at h1
    dsimp only at h1
    walk_at "s"
    refine x_neLn (ns := S.q.turn) (sqL hS) (sqL hS) ?_
    obtain ⟨f0, hf0⟩ : ∃ f0, f0 = (S.q.turn[0]?).getD 0 := ⟨_, rfl⟩
    walk_at "s"
    refine x_bool (fun h5 => ?_) (fun h5 => ?_)
    · obtain ⟨y, hy⟩ : ∃ y, S.q.turn[0]? = some y := by
        cases ht : S.q.turn with
        | nil => rw [ht] at h5; cases h5
        | cons y r0 => exact ⟨y, rfl⟩
      have hy0 : f0 = y := by rw [hf0, hy] <;> rfl
      walk_at "s"
      refine x_ixL (sqL hS) (atI_nat (j := 0) (v := .int y) (by rw [List.getElem?_map, hy] <;> rfl)) ?_
      rw [← hy0]
      walk_at "s"
      refine x_inO (sqL hS) ?_
      cases hh : hasO e S.q.turn with
      | true =>
        obtain ⟨i, he, hi⟩ := has_some hh
        rw [he] at h1 ⊢
        walk_at "s"
        refine ⟨p, t, n, c, r, i, S, w, _, rfl, ho, hi, (hS.of (by repeat (first | exact En.refl | exact En.nil | refine En.cons ?_ | refine En.drop ?_))), fun H hS => ?_⟩
        have hF := law_has ho hi
        obtain ⟨F, eF⟩ : ∃ F, F = (S.q.turn[S.q.turn.idxOf i + 1]?).getD 0 := ⟨_, rfl⟩
        rw [← eF] at hF
        rw [hF] at h1
        unfold OS.fin at h1
        have eV : oV (gO true (S.q.turn[S.q.turn.idxOf i + 1]?)) = V.int F := by rw [eF]; rfl
        rw [eV]
        walk_at "s"
        refine x_dec (fun hz => ?_) (fun hz => ?_)
        · walk_at "s"
          refine x_eqS rfl ?_
          walk_at "s"
          refine x_dec (fun ha => ?_) (fun ha => ?_)
          · have ha' : S.ag = "all" := by injection ha
            rw [if_pos ⟨hz, ha'⟩] at h1
            walk_at "s"
            refine x_neLn (ns := S.q.turn) (sqL hS) (sqL hS) ?_
            cases ht : S.q.turn with
            | nil =>
              rw [ht] at h1
              walk_at "s"
              refine x_no rfl ?_
              walk_at "s"
              refine x_ndec (fun hq => absurd hz hq) (fun _ => ?_)
              walk_at "s"
              exact h1 _ (Sep.clW' (S) w t n c r hS (by (try simp only [List.map_nil]); repeat (first | exact En.refl | exact En.nil | refine En.cons ?_ | refine En.drop ?_)))
            | cons y r0 =>
              rw [ht] at h1
              have hy1 := (ho.pos y (by rw [ht]; exact List.mem_cons_self)).1
              walk_at "s"
              refine x_yes rfl ?_
              walk_at "s"
              refine x_ixL (sqL hS) (atI_nat (j := 0) (v := .int y) (by rw [ht] <;> rfl)) ?_
              walk_at "s"
              refine x_ndec (fun hq => ?_) (fun hq => absurd hq (by omega))
              walk_at "s"
              exact h1 _ (Sep.clW' (S) w t n c r hS (by (try simp only [List.map_nil]); repeat (first | exact En.refl | exact En.nil | refine En.cons ?_ | refine En.drop ?_)))
          · rw [if_neg (fun z => ha (by rw [z.2])), if_pos hz] at h1
            walk_at "s"
            refine x_ndec (fun hq => absurd hz hq) (fun _ => ?_)
            walk_at "s"
            exact h1 _ (Sep.clW' (S) w t n c r hS (by (try simp only [List.map_nil]); repeat (first | exact En.refl | exact En.nil | refine En.cons ?_ | refine En.drop ?_)))
        · rw [if_neg (fun z => hz z.1), if_neg hz] at h1
          walk_at "s"
          refine x_ndec (fun _ => ?_) (fun hq => absurd hq hz)
          walk_at "s"
          exact h1 _ (Sep.clW' (S) w t n c r hS (by (try simp only [List.map_nil]); repeat (first | exact En.refl | exact En.nil | refine En.cons ?_ | refine En.drop ?_)))
      | false =>
        have hn : ¬ hasO e S.q.turn = true := by rw [hh]; intro z; cases z
        walk_at "s"
        cases hg : S.gone with
        | true =>
          refine x_yes rfl ?_
          have hF := law_gone ho hn hg
          obtain ⟨F, eF⟩ : ∃ F, F = S.beh.getD 0 := ⟨_, rfl⟩
          rw [← eF] at hF
          rw [hF] at h1
          unfold OS.fin at h1
          have eV : oV (gO S.gone S.beh) = V.int F := by rw [eF, hg]; rfl
          walk_at "s"
          rw [eV]
          walk_at "s"
          refine x_dec (fun hz => ?_) (fun hz => ?_)
          · walk_at "s"
            refine x_eqS rfl ?_
            walk_at "s"
            refine x_dec (fun ha => ?_) (fun ha => ?_)
            · have ha' : S.ag = "all" := by injection ha
              rw [if_pos ⟨hz, ha'⟩] at h1
              walk_at "s"
              refine x_neLn (ns := S.q.turn) (sqL hS) (sqL hS) ?_
              cases ht : S.q.turn with
              | nil =>
                rw [ht] at h1
                walk_at "s"
                refine x_no rfl ?_
                walk_at "s"
                refine x_ndec (fun hq => absurd hz hq) (fun _ => ?_)
                walk_at "s"
                exact h1 _ (Sep.clW' (S) w t n c r hS (by (try simp only [List.map_nil]); repeat (first | exact En.refl | exact En.nil | refine En.cons ?_ | refine En.drop ?_)))
              | cons y r0 =>
                rw [ht] at h1
                have hy1 := (ho.pos y (by rw [ht]; exact List.mem_cons_self)).1
                walk_at "s"
                refine x_yes rfl ?_
                walk_at "s"
                refine x_ixL (sqL hS) (atI_nat (j := 0) (v := .int y) (by rw [ht] <;> rfl)) ?_
                walk_at "s"
                refine x_ndec (fun hq => ?_) (fun hq => absurd hq (by omega))
                walk_at "s"
                exact h1 _ (Sep.clW' (S) w t n c r hS (by (try simp only [List.map_nil]); repeat (first | exact En.refl | exact En.nil | refine En.cons ?_ | refine En.drop ?_)))
            · rw [if_neg (fun z => ha (by rw [z.2])), if_pos hz] at h1
              walk_at "s"
              refine x_ndec (fun hq => absurd hz hq) (fun _ => ?_)
              walk_at "s"
              exact h1 _ (Sep.clW' (S) w t n c r hS (by (try simp only [List.map_nil]); repeat (first | exact En.refl | exact En.nil | refine En.cons ?_ | refine En.drop ?_)))
          · rw [if_neg (fun z => hz z.1), if_neg hz] at h1
            walk_at "s"
            refine x_ndec (fun _ => ?_) (fun hq => absurd hq hz)
            walk_at "s"
            exact h1 _ (Sep.clW' (S) w t n c r hS (by (try simp only [List.map_nil]); repeat (first | exact En.refl | exact En.nil | refine En.cons ?_ | refine En.drop ?_)))
        | false =>
          refine x_no rfl ?_
          have hF := (hf0 ▸ law_new ho hn hg)
          obtain ⟨F, eF⟩ : ∃ F, F = f0 := ⟨_, rfl⟩
          subst eF
          rw [hF] at h1
          unfold OS.fin at h1
          walk_at "s"
          refine x_dec (fun hz => ?_) (fun hz => ?_)
          · walk_at "s"
            refine x_eqS rfl ?_
            walk_at "s"
            refine x_dec (fun ha => ?_) (fun ha => ?_)
            · have ha' : S.ag = "all" := by injection ha
              rw [if_pos ⟨hz, ha'⟩] at h1
              walk_at "s"
              refine x_neLn (ns := S.q.turn) (sqL hS) (sqL hS) ?_
              cases ht : S.q.turn with
              | nil =>
                rw [ht] at h1
                walk_at "s"
                refine x_no rfl ?_
                walk_at "s"
                refine x_ndec (fun hq => absurd hz hq) (fun _ => ?_)
                walk_at "s"
                exact h1 _ (Sep.clW' (S) w t n c r hS (by (try simp only [List.map_nil]); repeat (first | exact En.refl | exact En.nil | refine En.cons ?_ | refine En.drop ?_)))
              | cons y r0 =>
                rw [ht] at h1
                have hy1 := (ho.pos y (by rw [ht]; exact List.mem_cons_self)).1
                walk_at "s"
                refine x_yes rfl ?_
                walk_at "s"
                refine x_ixL (sqL hS) (atI_nat (j := 0) (v := .int y) (by rw [ht] <;> rfl)) ?_
                walk_at "s"
                refine x_ndec (fun hq => ?_) (fun hq => absurd hq (by omega))
                walk_at "s"
                exact h1 _ (Sep.clW' (S) w t n c r hS (by (try simp only [List.map_nil]); repeat (first | exact En.refl | exact En.nil | refine En.cons ?_ | refine En.drop ?_)))
            · rw [if_neg (fun z => ha (by rw [z.2])), if_pos hz] at h1
              walk_at "s"
              refine x_ndec (fun hq => absurd hz hq) (fun _ => ?_)
              walk_at "s"
              exact h1 _ (Sep.clW' (S) w t n c r hS (by (try simp only [List.map_nil]); repeat (first | exact En.refl | exact En.nil | refine En.cons ?_ | refine En.drop ?_)))
          · rw [if_neg (fun z => hz z.1), if_neg hz] at h1
            walk_at "s"
            refine x_ndec (fun _ => ?_) (fun hq => absurd hq hz)
            walk_at "s"
            exact h1 _ (Sep.clW' (S) w t n c r hS (by (try simp only [List.map_nil]); repeat (first | exact En.refl | exact En.nil | refine En.cons ?_ | refine En.drop ?_)))
    · have hy0 : (0 : Int) = f0 := by
        cases ht : S.q.turn with
        | nil => rw [hf0, ht] <;> rfl
        | cons y r0 => rw [ht] at h5; cases h5
      refine x_cI hy0 ?_
      walk_at "s"
      refine x_inO (sqL hS) ?_
      cases hh : hasO e S.q.turn with
      | true =>
        obtain ⟨i, he, hi⟩ := has_some hh
        rw [he] at h1 ⊢
        walk_at "s"
        refine ⟨p, t, n, c, r, i, S, w, _, rfl, ho, hi, (hS.of (by repeat (first | exact En.refl | exact En.nil | refine En.cons ?_ | refine En.drop ?_))), fun H hS => ?_⟩
        have hF := law_has ho hi
        obtain ⟨F, eF⟩ : ∃ F, F = (S.q.turn[S.q.turn.idxOf i + 1]?).getD 0 := ⟨_, rfl⟩
        rw [← eF] at hF
        rw [hF] at h1
        unfold OS.fin at h1
        have eV : oV (gO true (S.q.turn[S.q.turn.idxOf i + 1]?)) = V.int F := by rw [eF]; rfl
        rw [eV]
        walk_at "s"
        refine x_dec (fun hz => ?_) (fun hz => ?_)
        · walk_at "s"
          refine x_eqS rfl ?_
          walk_at "s"
          refine x_dec (fun ha => ?_) (fun ha => ?_)
          · have ha' : S.ag = "all" := by injection ha
            rw [if_pos ⟨hz, ha'⟩] at h1
            walk_at "s"
            refine x_neLn (ns := S.q.turn) (sqL hS) (sqL hS) ?_
            cases ht : S.q.turn with
            | nil =>
              rw [ht] at h1
              walk_at "s"
              refine x_no rfl ?_
              walk_at "s"
              refine x_ndec (fun hq => absurd hz hq) (fun _ => ?_)
              walk_at "s"
              exact h1 _ (Sep.clW' (S) w t n c r hS (by (try simp only [List.map_nil]); repeat (first | exact En.refl | exact En.nil | refine En.cons ?_ | refine En.drop ?_)))
            | cons y r0 =>
              rw [ht] at h1
              have hy1 := (ho.pos y (by rw [ht]; exact List.mem_cons_self)).1
              walk_at "s"
              refine x_yes rfl ?_
              walk_at "s"
              refine x_ixL (sqL hS) (atI_nat (j := 0) (v := .int y) (by rw [ht] <;> rfl)) ?_
              walk_at "s"
              refine x_ndec (fun hq => ?_) (fun hq => absurd hq (by omega))
              walk_at "s"
              exact h1 _ (Sep.clW' (S) w t n c r hS (by (try simp only [List.map_nil]); repeat (first | exact En.refl | exact En.nil | refine En.cons ?_ | refine En.drop ?_)))
          · rw [if_neg (fun z => ha (by rw [z.2])), if_pos hz] at h1
            walk_at "s"
            refine x_ndec (fun hq => absurd hz hq) (fun _ => ?_)
            walk_at "s"
            exact h1 _ (Sep.clW' (S) w t n c r hS (by (try simp only [List.map_nil]); repeat (first | exact En.refl | exact En.nil | refine En.cons ?_ | refine En.drop ?_)))
        · rw [if_neg (fun z => hz z.1), if_neg hz] at h1
          walk_at "s"
          refine x_ndec (fun _ => ?_) (fun hq => absurd hq hz)
          walk_at "s"
          exact h1 _ (Sep.clW' (S) w t n c r hS (by (try simp only [List.map_nil]); repeat (first | exact En.refl | exact En.nil | refine En.cons ?_ | refine En.drop ?_)))
      | false =>
        have hn : ¬ hasO e S.q.turn = true := by rw [hh]; intro z; cases z
        walk_at "s"
        cases hg : S.gone with
        | true =>
          refine x_yes rfl ?_
          have hF := law_gone ho hn hg
          obtain ⟨F, eF⟩ : ∃ F, F = S.beh.getD 0 := ⟨_, rfl⟩
          rw [← eF] at hF
          rw [hF] at h1
          unfold OS.fin at h1
          have eV : oV (gO S.gone S.beh) = V.int F := by rw [eF, hg]; rfl
          walk_at "s"
          rw [eV]
          walk_at "s"
          refine x_dec (fun hz => ?_) (fun hz => ?_)
          · walk_at "s"
            refine x_eqS rfl ?_
            walk_at "s"
            refine x_dec (fun ha => ?_) (fun ha => ?_)
            · have ha' : S.ag = "all" := by injection ha
              rw [if_pos ⟨hz, ha'⟩] at h1
              walk_at "s"
              refine x_neLn (ns := S.q.turn) (sqL hS) (sqL hS) ?_
              cases ht : S.q.turn with
              | nil =>
                rw [ht] at h1
                walk_at "s"
                refine x_no rfl ?_
                walk_at "s"
                refine x_ndec (fun hq => absurd hz hq) (fun _ => ?_)
                walk_at "s"
                exact h1 _ (Sep.clW' (S) w t n c r hS (by (try simp only [List.map_nil]); repeat (first | exact En.refl | exact En.nil | refine En.cons ?_ | refine En.drop ?_)))
              | cons y r0 =>
                rw [ht] at h1
                have hy1 := (ho.pos y (by rw [ht]; exact List.mem_cons_self)).1
                walk_at "s"
                refine x_yes rfl ?_
                walk_at "s"
                refine x_ixL (sqL hS) (atI_nat (j := 0) (v := .int y) (by rw [ht] <;> rfl)) ?_
                walk_at "s"
                refine x_ndec (fun hq => ?_) (fun hq => absurd hq (by omega))
                walk_at "s"
                exact h1 _ (Sep.clW' (S) w t n c r hS (by (try simp only [List.map_nil]); repeat (first | exact En.refl | exact En.nil | refine En.cons ?_ | refine En.drop ?_)))
            · rw [if_neg (fun z => ha (by rw [z.2])), if_pos hz] at h1
              walk_at "s"
              refine x_ndec (fun hq => absurd hz hq) (fun _ => ?_)
              walk_at "s"
              exact h1 _ (Sep.clW' (S) w t n c r hS (by (try simp only [List.map_nil]); repeat (first | exact En.refl | exact En.nil | refine En.cons ?_ | refine En.drop ?_)))
          · rw [if_neg (fun z => hz z.1), if_neg hz] at h1
            walk_at "s"
            refine x_ndec (fun _ => ?_) (fun hq => absurd hq hz)
            walk_at "s"
            exact h1 _ (Sep.clW' (S) w t n c r hS (by (try simp only [List.map_nil]); repeat (first | exact En.refl | exact En.nil | refine En.cons ?_ | refine En.drop ?_)))
        | false =>
          refine x_no rfl ?_
          have hF := (hf0 ▸ law_new ho hn hg)
          obtain ⟨F, eF⟩ : ∃ F, F = f0 := ⟨_, rfl⟩
          subst eF
          rw [hF] at h1
          unfold OS.fin at h1
          walk_at "s"
          refine x_dec (fun hz => ?_) (fun hz => ?_)
          · walk_at "s"
            refine x_eqS rfl ?_
            walk_at "s"
            refine x_dec (fun ha => ?_) (fun ha => ?_)
            · have ha' : S.ag = "all" := by injection ha
              rw [if_pos ⟨hz, ha'⟩] at h1
              walk_at "s"
              refine x_neLn (ns := S.q.turn) (sqL hS) (sqL hS) ?_
              cases ht : S.q.turn with
              | nil =>
                rw [ht] at h1
                walk_at "s"
                refine x_no rfl ?_
                walk_at "s"
                refine x_ndec (fun hq => absurd hz hq) (fun _ => ?_)
                walk_at "s"
                exact h1 _ (Sep.clW' (S) w t n c r hS (by (try simp only [List.map_nil]); repeat (first | exact En.refl | exact En.nil | refine En.cons ?_ | refine En.drop ?_)))
              | cons y r0 =>
                rw [ht] at h1
                have hy1 := (ho.pos y (by rw [ht]; exact List.mem_cons_self)).1
                walk_at "s"
                refine x_yes rfl ?_
                walk_at "s"
                refine x_ixL (sqL hS) (atI_nat (j := 0) (v := .int y) (by rw [ht] <;> rfl)) ?_
                walk_at "s"
                refine x_ndec (fun hq => ?_) (fun hq => absurd hq (by omega))
                walk_at "s"
                exact h1 _ (Sep.clW' (S) w t n c r hS (by (try simp only [List.map_nil]); repeat (first | exact En.refl | exact En.nil | refine En.cons ?_ | refine En.drop ?_)))
            · rw [if_neg (fun z => ha (by rw [z.2])), if_pos hz] at h1
              walk_at "s"
              refine x_ndec (fun hq => absurd hz hq) (fun _ => ?_)
              walk_at "s"
              exact h1 _ (Sep.clW' (S) w t n c r hS (by (try simp only [List.map_nil]); repeat (first | exact En.refl | exact En.nil | refine En.cons ?_ | refine En.drop ?_)))
          · rw [if_neg (fun z => hz z.1), if_neg hz] at h1
            walk_at "s"
            refine x_ndec (fun _ => ?_) (fun hq => absurd hq hz)
            walk_at "s"
            exact h1 _ (Sep.clW' (S) w t n c r hS (by (try simp only [List.map_nil]); repeat (first | exact En.refl | exact En.nil | refine En.cons ?_ | refine En.drop ?_)))
def sp_l_after (K : PySem.W.Frag) : Sp := fun vs H Q E => ∃ (p : Addr) (e : Option Int) (S : OS) (w : Option Int) (R : List As), vs = [.ref p, oV e] ∧ S.Ok ∧ Sep (OwnR p S w :: R) H ∧ ∀ H', Sep (OwnR p (S.after e).1 w :: R) H' → Q (oV (S.after e).2) H'
theorem ln_l_after : ∀ vs H Q E, sp_l_after K vs H Q E → vs.length = (["_law_order_here", "_law_entry"] : List Str).length := by
  rintro _ _ _ _ ⟨p, e, S, w, R, rfl, _⟩
  rfl
theorem sc_l_after : FnScope ["_law_order_here", "_law_entry"] ["_law_order_here", "_law_entry"] (defScope s_l_after) := ⟨rfl, rfl, rfl, by decide +kernel, rfl, by decide +kernel, by decide +kernel⟩
theorem ok_l_after (T : Top K mg) : OkD P w K mg base d_l_after 4 ["_law_order_here", "_law_entry"] (sp_l_after K) := by
  refine okD (df_l_after T) sc_l_after (fun _ _ _ _ _ _ us hl => match us, hl with | [_, _], _ => rfl) ln_l_after (fun cdv A outer s H vs Q E hr h => ⟨_,
      pss_cons (ps_if (PW.pt (pw_and (pt_cmpR (op_eqA hr.units) (pe_dget (hu_of hr) (pv 0) pe_str (fun _ _ => rfl)) pe_str (nomark _)) (pw_and1 (pt_cmpR op_in_seq (pv 1) (pe_dget (hu_of hr) (pv 0) pe_str (fun _ _ => rfl)) (by rfl)))))
       (pss_one (ps_ret (pv 1)))
       (pss_nil))
      (pss_one (ps_ret (px_call (ok_l_skip T) (hr.mono (by decide)) rfl (gl__law_skip T) (fun σ => paD σ) (pa_cons (pv 0) (pa_cons (pv 1) pa_nil))))), ?_⟩)
  obtain ⟨p, e, S, w, R, rfl, ho, hS, h1⟩ := h
  obtain ⟨t, n, c, r, hS⟩ := hS.opW
  walk_at "go"
  unfold OS.after at h1
  refine x_eqS rfl ?_
  walk_at "s"
  refine x_dec (fun ha => ?_) (fun ha => ?_)
  · have ha' : S.ag = "one" := by injection ha
    walk_at "s"
    refine x_inO (sqL hS) ?_
    cases hh : hasO e S.q.turn with
    | true =>
      rw [if_pos ⟨ha', hh⟩] at h1
      walk_at "s"
      exact h1 _ (Sep.clW' (S) w t n c r hS (by (try simp only [List.map_nil]); repeat (first | exact En.refl | exact En.nil | refine En.cons ?_ | refine En.drop ?_)))
    | false =>
      rw [if_neg (fun z => by rw [hh] at z; cases z.2)] at h1
      walk_at "s"
      exact ⟨p, e, S, w, R, rfl, ho, (Sep.clW' (S) w t n c r hS (by (try simp only [List.map_nil]); repeat (first | exact En.refl | exact En.nil | refine En.cons ?_ | refine En.drop ?_))), h1⟩
  · rw [if_neg (fun z => ha (by rw [z.1]))] at h1
    walk_at "s"
    exact ⟨p, e, S, w, R, rfl, ho, (Sep.clW' (S) w t n c r hS (by (try simp only [List.map_nil]); repeat (first | exact En.refl | exact En.nil | refine En.cons ?_ | refine En.drop ?_))), h1⟩

end
end TR

set_option Elab.async false
set_option linter.all false
set_option maxRecDepth 100000
set_option maxHeartbeats 4000000
/-! .. -/

namespace TR
open PySem PySem.Spec PyProof.Rows L2
section
variable {P : Program} {w : World} {K : PySem.W.Frag} {mg : Str → Option Value} {base : Heap}
/-! ### what orders keep -/
theorem insAt_perm (xs : List Int) (i : Nat) (y : Int) : (insAt xs i y).Perm (y :: xs) := by
  have h := List.perm_middle (a := y) (l₁ := xs.take i) (l₂ := xs.drop i)
  rw [List.take_append_drop] at h
  unfold insAt
  rw [List.append_assoc]
  exact h
theorem mem_wo {e a : Int} {ns : List Int} : a ∈ wo e ns ↔ a ∈ ns ∧ a ≠ e := by
  unfold wo
  rw [List.mem_filter]
  simp
theorem wo_nodup {e : Int} {ns : List Int} (h : ns.Nodup) : (wo e ns).Nodup := List.Nodup.sublist List.filter_sublist h
theorem rot_perm {xs : List Int} (h : 1 < xs.length) : (rot xs).Perm xs := by
  have e1 : xs = xs.take 1 ++ ((xs.drop 1).take (xs.length - 1 - 1) ++ xs.drop (xs.length - 1)) := by
    have e2 : xs.drop (xs.length - 1) = (xs.drop 1).drop (xs.length - 1 - 1) := by
      rw [List.drop_drop]
      congr 1
      omega
    rw [e2, List.take_append_drop, List.take_append_drop]
  obtain ⟨a, ha⟩ : ∃ a, a = xs.take 1 := ⟨_, rfl⟩
  obtain ⟨b, hb⟩ : ∃ b, b = (xs.drop 1).take (xs.length - 1 - 1) := ⟨_, rfl⟩
  obtain ⟨c, hc⟩ : ∃ c, c = xs.drop (xs.length - 1) := ⟨_, rfl⟩
  have e4 : xs = a ++ (b ++ c) := by
    rw [ha, hb, hc]
    exact e1
  unfold rot
  rw [← ha, ← hb, ← hc]
  have e3 : (c ++ b ++ a).Perm (a ++ (b ++ c)) := (List.perm_append_comm).trans (List.Perm.append_left a List.perm_append_comm)
  exact e3.trans (List.Perm.of_eq e4.symm)
theorem turnD_perm (e : Option Int) (xs : List Int) : (turnD e xs).Perm xs := by
  unfold turnD
  split
  · next h => exact rot_perm h.1
  · exact .refl _
theorem OS.Ok.deck {S : OS} (h : S.Ok) {ds : List Int} {d : Int} (hd : ds.Nodup) (hs : ∀ e ∈ ds, e ∈ S.q.turn) (ok : okSeed d) (mx : Bool) (ag : Str) : OS.Ok ⟨S.q, d, mx, ag, ds, S.gone, S.beh⟩ :=
  ⟨h.nd, hd, h.pos, hs, h.len, h.tl, ok, h.bh⟩
theorem OS.Ok.again {S : OS} (h : S.Ok) (z : Str) : OS.Ok { S with ag := z } := h.deck h.dnd h.sub h.seed S.mx z
theorem OS.Ok.setMixed {S : OS} (h : S.Ok) (b : Bool) (e : Option Int) : (S.setMixed b e).Ok := by
  unfold OS.setMixed
  split
  · have hp := mixN_perm S.d (S.rest e)
    exact h.deck (hp.nodup_iff.mpr (List.Nodup.sublist List.filter_sublist h.nd)) (fun a ha => (List.mem_filter.mp (hp.mem_iff.mp ha)).1) (mixSd_ok h.seed _) _ _
  · exact h
  · exact h.deck List.nodup_nil (fun a ha => by cases ha) h.seed _ _
theorem OS.Ok.pop {S : OS} (h : S.Ok) : S.pop.1.Ok := by
  unfold OS.pop
  split
  · exact h
  · next x r hd =>
    have h1 := h.dnd
    rw [hd] at h1
    exact h.deck (List.nodup_cons.mp h1).2 (fun a ha => h.sub a (by rw [hd]; exact List.mem_cons_of_mem _ ha)) h.seed _ _
theorem OS.Ok.deal {S : OS} (h : S.Ok) {f : List Int → List Int} (hf : ∀ xs, (f xs).Perm xs) : (S.deal f).Ok := by
  have hp := (hf (mixN S.d S.q.turn)).trans (mixN_perm S.d S.q.turn)
  exact h.deck (hp.nodup_iff.mpr h.nd) (fun a ha => hp.mem_iff.mp ha) (mixSd_ok h.seed _) _ _
theorem OS.Ok.first {S : OS} (h : S.Ok) : S.first.1.Ok := by
  unfold OS.first
  split
  · exact h
  · split
    · exact (h.deal (f := id) fun _ => .refl _).pop
    · exact h.pop
theorem OS.Ok.nextM {S : OS} (h : S.Ok) (e : Option Int) : (S.nextM e).1.Ok := by
  unfold OS.nextM
  split
  · exact (h.deal (turnD_perm e)).pop
  · exact h.pop
theorem OS.Ok.skip {S : OS} (h : S.Ok) (e : Option Int) : (S.skip e).1.Ok := by
  unfold OS.skip
  split
  · exact h.nextM e
  · exact h
theorem OS.Ok.after {S : OS} (h : S.Ok) (e : Option Int) : (S.after e).1.Ok := by
  unfold OS.after
  split
  · exact h
  · exact h.skip e
theorem OS.Ok.began {S : OS} (h : S.Ok) (e : Int) : (S.began e).Ok :=
  ⟨h.nd, wo_nodup h.dnd, h.pos, fun a ha => h.sub a (mem_wo.mp ha).1, h.len, h.tl, h.seed, fun b hg hb => by
    have hg' : (if e ∈ S.q.turn then false else S.gone) = true := hg
    split at hg'
    · cases hg'
    · exact h.bh b hg' hb⟩
theorem OS.Ok.put {S : OS} (h : S.Ok) {z : Str} {pl : Int} (o : okPut S.q pl) (ht : S.q.tunes.length < 1000) : (S.put z pl.toNat).Ok := by
  obtain ⟨o1, o2, o3⟩ := o
  have hl := h.len
  have fresh : ∀ a ∈ S.q.turn, a ≠ ((S.q.tunes.length : Nat) : Int) + 1 := fun a ha z => by
    have := (h.pos a ha).2
    omega
  have hp := insAt_perm S.q.turn pl.toNat ((S.q.tunes.length : Nat) + 1)
  have nd : (insAt S.q.turn pl.toNat ((S.q.tunes.length : Nat) + 1)).Nodup := hp.nodup_iff.mpr (List.nodup_cons.mpr ⟨fun z => fresh _ z rfl, h.nd⟩)
  have pos : ∀ a ∈ insAt S.q.turn pl.toNat ((S.q.tunes.length : Nat) + 1), 1 ≤ a ∧ a ≤ ((S.q.tunes ++ [z]).length : Nat) := fun a ha => by
    rw [List.length_append, List.length_singleton]
    rcases List.mem_cons.mp (hp.mem_iff.mp ha) with rfl | ha
    · omega
    · have := h.pos a ha
      omega
  have len : (insAt S.q.turn pl.toNat ((S.q.tunes.length : Nat) + 1)).length ≤ 12 := by
    rw [hp.length_eq, List.length_cons]
    omega
  have tl : (S.q.tunes ++ [z]).length ≤ 1000 := by
    rw [List.length_append, List.length_singleton]
    omega
  have inn : ∀ a ∈ S.q.turn, a ∈ insAt S.q.turn pl.toNat ((S.q.tunes.length : Nat) + 1) := fun a ha => hp.mem_iff.mpr (List.mem_cons_of_mem _ ha)
  unfold OS.put
  split
  · have hq := insAt_perm S.deck (dval S.d ((S.deck.length : Nat) + 1)).toNat ((S.q.tunes.length : Nat) + 1)
    refine ⟨nd, hq.nodup_iff.mpr (List.nodup_cons.mpr ⟨fun z => fresh _ (h.sub _ z) rfl, h.dnd⟩), pos, fun a ha => ?_, len, tl, dnext_ok _, fun b hg hb => inn b (h.bh b hg hb)⟩
    rcases List.mem_cons.mp (hq.mem_iff.mp ha) with rfl | ha
    · exact hp.mem_iff.mpr List.mem_cons_self
    · exact inn a (h.sub a ha)
  · exact ⟨nd, h.dnd, pos, fun a ha => inn a (h.sub a ha), len, tl, h.seed, fun b hg hb => inn b (h.bh b hg hb)⟩
theorem OS.Ok.remove {S : OS} (h : S.Ok) {e : Int} (he : e ∈ S.q.turn) (now : Option Int) : (S.remove e now).Ok := by
  have eq : S.q.remove e = ⟨wo e S.q.turn, S.q.tunes⟩ := by unfold QS.remove; rw [wo_rem h.nd he]
  have sub : ∀ a ∈ wo e S.deck, a ∈ wo e S.q.turn := fun a ha => mem_wo.mpr ⟨h.sub a (mem_wo.mp ha).1, (mem_wo.mp ha).2⟩
  have len : (wo e S.q.turn).length ≤ 12 := Nat.le_trans (List.length_filter_le _ _) h.len
  unfold OS.remove
  rw [eq]
  split
  · refine ⟨wo_nodup h.nd, wo_nodup h.dnd, fun a ha => h.pos a (mem_wo.mp ha).1, sub, len, h.tl, h.seed, fun b _ hb => ?_⟩
    have hb' : S.q.turn[S.q.turn.idxOf e + 1]? = some b := hb
    obtain ⟨hi, hx⟩ := List.getElem?_eq_some_iff.mp hb'
    refine mem_wo.mpr ⟨hx ▸ List.getElem_mem hi, fun z => ?_⟩
    obtain ⟨hi2, hx2⟩ := List.getElem?_eq_some_iff.mp (first_ix he).1
    exact List.pairwise_iff_getElem.mp h.nd (S.q.turn.idxOf e) (S.q.turn.idxOf e + 1) hi2 hi (Nat.lt_succ_self _) (by rw [hx, hx2, z])
  · next hh =>
    refine ⟨wo_nodup h.nd, wo_nodup h.dnd, fun a ha => h.pos a (mem_wo.mp ha).1, sub, len, h.tl, h.seed, fun b hg hb => mem_wo.mpr ⟨h.bh b hg hb, fun z => hh (.inr ⟨hg, ?_⟩)⟩⟩
    have hb' : S.beh = some b := hb
    rw [hb', z]
/-- an entry moves -/
def OS.move (S : OS) (e : Int) (pl : Nat) : OS := ⟨S.q.move e pl, S.d, S.mx, S.ag, S.deck, S.gone, S.beh⟩
theorem move_perm {S : OS} (h : S.Ok) {e : Int} (he : e ∈ S.q.turn) (pl : Nat) : (S.q.move e pl).turn.Perm S.q.turn := by
  show (insAt (S.q.turn.eraseIdx (S.q.turn.idxOf e)) pl e).Perm S.q.turn
  refine (insAt_perm _ _ _).trans ?_
  rw [← List.erase_eq_eraseIdx_of_idxOf (by rfl)]
  exact (List.perm_cons_erase he).symm
theorem OS.Ok.move {S : OS} (h : S.Ok) {e : Int} (he : e ∈ S.q.turn) (pl : Nat) : (S.move e pl).Ok := by
  have hp := move_perm h he pl
  exact ⟨hp.nodup_iff.mpr h.nd, h.dnd, fun a ha => h.pos a (hp.mem_iff.mp ha), fun a ha => hp.mem_iff.mpr (h.sub a ha), by show (S.q.move e pl).turn.length ≤ 12; rw [hp.length_eq]; exact h.len, h.tl, h.seed, fun b hg hb => hp.mem_iff.mpr (h.bh b hg hb)⟩
/-! tunes stay -/
theorem OS.pop_q (S : OS) : S.pop.1.q = S.q := by
  unfold OS.pop
  split <;> rfl
theorem OS.first_q (S : OS) : S.first.1.q = S.q := by
  unfold OS.first
  split
  · rfl
  · split
    · exact OS.pop_q _
    · exact OS.pop_q _
theorem OS.skip_q (S : OS) (e : Option Int) : (S.skip e).1.q = S.q := by
  unfold OS.skip OS.nextM
  split
  · split
    · exact OS.pop_q _
    · exact OS.pop_q _
  · rfl
theorem OS.after_q (S : OS) (e : Option Int) : (S.after e).1.q = S.q := by
  unfold OS.after
  split
  · rfl
  · exact S.skip_q e
theorem OS.setMixed_q (S : OS) (b : Bool) (e : Option Int) : (S.setMixed b e).q = S.q := by
  unfold OS.setMixed
  split <;> rfl
theorem OS.remove_t (S : OS) (e : Int) (now : Option Int) : (S.remove e now).q.tunes = S.q.tunes := by
  unfold OS.remove
  split <;> rfl
theorem OS.put_t (S : OS) (z : Str) (pl : Nat) : (S.put z pl).q.tunes = S.q.tunes ++ [z] := by
  unfold OS.put
  split <;> rfl

end
end TR

set_option Elab.async false
set_option linter.all false
set_option maxRecDepth 100000
set_option maxHeartbeats 4000000
/-! .. -/

namespace TR
open PySem PySem.Spec PyProof.Rows L2
section
variable {P : Program} {w : World} {K : PySem.W.Frag} {mg : Str → Option Value} {base : Heap}
/-! ### calls at an order and at the law's own -/
def sp_l_told (K : PySem.W.Frag) : Sp := fun vs H Q E =>
  (∃ (p : Addr) (z : Str) (S : OS) (R : List As), vs = [.ref p, .str z] ∧ ¬ okWord z ∧ Sep (OrderR K p S :: R) H ∧ (∀ u H', Sep (RefR u .word :: OrderR K p S :: R) H' → Q (.ref u) H')) ∨
  ∃ (m : Int) (R : List As), vs = [.non, .int m] ∧ ¬ okSeed m ∧ Sep R H ∧ ∀ u H', Sep (RefR u .number :: R) H' → Q (.ref u) H'
theorem ln_l_told : ∀ vs H Q E, sp_l_told K vs H Q E → vs.length = (["_law_order_here", "_law_word"] : List Str).length := by
  rintro _ _ _ _ (⟨p, z, S, R, rfl, _⟩ | ⟨m, R, rfl, _⟩) <;> rfl
theorem sc_l_told : FnScope ["_law_order_here", "_law_word", "_law_held", "_law_found", "e"] ["_law_order_here", "_law_word"] (defScope s_l_told) := ⟨rfl, rfl, rfl, by decide +kernel, rfl, by decide +kernel, by decide +kernel⟩
theorem ok_l_told (T : Top K mg) : OkD P w K mg base d_l_told 5 ["_law_order_here", "_law_word"] (sp_l_told K) := by
  refine okD (df_l_told T) sc_l_told (fun _ _ _ _ _ _ us hl => match us, hl with | [_, _], _ => rfl) ln_l_told (fun cdv A outer s H vs Q E hr h => ⟨_,
      pss_cons (ps_set (i := 2) sc_l_told.nd rfl (Or.inl rfl) pe_non)
      (pss_cons (ps_set (i := 3) sc_l_told.nd rfl (Or.inl rfl) pe_non)
      (pss_cons (ps_try_hold (i := 4) (Wout := fun _ _ _ _ => False) rfl rfl rfl sc_l_told.nd rfl rfl ⟨rfl, by decide, .inl (gl_RoadError T)⟩ takes0
       (fun W pn xe tk po => (by exact pss_one (ps_set (i := 3) sc_l_told.nd rfl (Or.inl rfl) (pe_ifExp (pt_cmpR op_isN1 (pv 0) pe_non (nomark _)) (pe_cmpR op_isN1 (px_make (E := WE W) (ok_Order_init T) (hr.mono (by decide)) (mk_Order T) rfl (gl_Order T) (fun σ => passAt tk σ) (pa_cons (pv 1) pa_nil)) pe_non (nomark _)) (px_meth (E := WE W) (ok_Order_set_again T) (hr.mono (by decide)) (pv 0) (cl_Order T) (me_Order_set_again T) (fun σ => passAt tk σ) (pa_cons (pv 1) pa_nil))))))
       (fun a pn => (by exact pss_one (ps_set (i := 2) sc_l_told.nd rfl (Or.inl rfl) (pv 4)))))
      (pss_one (ps_ret (pe_ifExp (pt_cmpR op_isN1 (pv 2) pe_non (nomark _)) (pv 3) (px_call (ok_l_refusal T) (hr.mono (by decide)) rfl (gl__law_refusal T) (fun σ => paD σ) (pa_cons (pv 2) pa_nil))))))), ?_⟩)
  rcases h with ⟨p, z, S, R, rfl, hz, hS, h1⟩ | ⟨m, R, rfl, hm, hS, h1⟩
  · walk_at "go"
    refine x_no rfl ?_
    walk_at "s"
    refine ⟨p, z, S, R, rfl, hS, fun z => absurd z hz, fun _ H hS => ?_⟩
    refine y_hold (xm_BadWord_RoadError T) (fun _ => rfl) hS fun e H hS => ?_
    walk_at "s"
    refine x_no rfl ?_
    walk_at "s"
    exact ⟨e, .word, _, rfl, hS, h1⟩
  · walk_at "go"
    refine x_yes rfl ?_
    walk_at "s"
    refine y_mk hS fun x dx H hS => ?_
    refine ⟨x, dx, m, R, rfl, hS, fun z => absurd z hm, fun _ H hS => ?_⟩
    refine y_hold (xm_BadNumber_RoadError T) (fun _ => rfl) hS fun e H hS => ?_
    walk_at "s"
    refine x_no rfl ?_
    walk_at "s"
    exact ⟨e, .number, _, rfl, hS, h1⟩
theorem Sep.lst1 {u : Addr} {x y : V} {R : List As} {H : Hp} (e : x = y) (h : Sep (pt u (.lst [x]) :: R) H) : Sep (pt u (.lst [y]) :: R) H := e ▸ h
def sp_l_turned (K : PySem.W.Frag) : Sp := fun vs H Q E => ∃ (a t0 o p : Addr) (ns : List Int) (m : Nat) (S : OS) (w : Option Int) (R : List As), vs = [.ref a, .ref t0, .ref o, .ref p] ∧ m ≤ 900 ∧ S.Ok ∧
  Sep (ScrA K a ns :: TownA t0 m :: OrderR K o S :: OwnR p S w :: R) H ∧
  ∀ m' S' H', m' ≤ m + 3 → S'.Ok → S'.q.tunes.length ≤ S.q.tunes.length → Sep (ScrA K a ns :: TownA t0 m' :: OrderR K o S' :: OwnR p S' w :: R) H' → Q .non H'
theorem ln_l_turned : ∀ vs H Q E, sp_l_turned K vs H Q E → vs.length = (["_law_script", "_law_town", "_law_order_here", "_law_own"] : List Str).length := by
  rintro _ _ _ _ ⟨a, t0, o, p, ns, m, S, w, R, rfl, _⟩
  rfl
theorem sc_l_turned : FnScope ["_law_script", "_law_town", "_law_order_here", "_law_own", "_law_way", "_law_is_mixed", "_law_entry", "_law_place"] ["_law_script", "_law_town", "_law_order_here", "_law_own"] (defScope s_l_turned) := ⟨rfl, rfl, rfl, by decide +kernel, rfl, by decide +kernel, by decide +kernel⟩
theorem ok_l_turned (T : Top K mg) : OkD P w K mg base d_l_turned 5 ["_law_script", "_law_town", "_law_order_here", "_law_own"] (sp_l_turned K) := by
  refine okD (df_l_turned T) sc_l_turned (fun _ _ _ _ _ _ us hl => match us, hl with | [_, _, _, _], _ => rfl) ln_l_turned (fun cdv A outer s H vs Q E hr h => ⟨_,
      pss_cons (ps_set (i := 4) sc_l_turned.nd rfl (Or.inl rfl) (px_call (ok_l_draw T) (hr.mono (by decide)) rfl (gl__law_draw T) (fun σ => paD σ) (pa_cons (pv 0) (pa_cons (pv 1) (pa_cons pe_int pa_nil)))))
      (pss_one (ps_if (pt_cmpR (op_eqA hr.units) (pv 4) pe_int (nomark _))
       (pss_cons (ps_set (i := 5) sc_l_turned.nd rfl (Or.inl rfl) (pe_cmpR (op_eqA hr.units) (px_call (ok_l_draw T) (hr.mono (by decide)) rfl (gl__law_draw T) (fun σ => paD σ) (pa_cons (pv 0) (pa_cons (pv 1) (pa_cons pe_int pa_nil)))) pe_int (nomark _)))
        (pss_cons (ps_expr (px_meth (ok_Order_set_mixed T) (hr.mono (by decide)) (pv 2) (cl_Order T) (me_Order_set_mixed T) (fun σ => paD σ) (pa_cons (pv 5) (pa_cons (pe_dget (hu_of hr) (pv 3) pe_str (fun _ _ => rfl)) pa_nil))))
        (pss_one (ps_expr (px_call (ok_l_set_mixed T) (hr.mono (by decide)) rfl (gl__law_set_mixed T) (fun σ => paD σ) (pa_cons (pv 3) (pa_cons (pv 5) (pa_cons (pe_dget (hu_of hr) (pv 3) pe_str (fun _ _ => rfl)) pa_nil))))))))
       (pss_one (ps_if (pt_cmpR (op_eqA hr.units) (pv 4) pe_int (nomark _))
         (pss_cons (ps_dput (hu_of hr) (pv 3) pe_str (px_call (ok_l_pick T) (hr.mono (by decide)) rfl (gl__law_pick T) (fun σ => paD σ) (pa_cons (pv 0) (pa_cons (pv 1) (pa_cons (pe_lst (pa_cons pe_str (pa_cons pe_str (pa_cons pe_str pa_nil)))) pa_nil)))) rfl)
          (pss_one (ps_expr (px_meth (ok_Order_set_again T) (hr.mono (by decide)) (pv 2) (cl_Order T) (me_Order_set_again T) (fun σ => paD σ) (pa_cons (pe_dget (hu_of hr) (pv 3) pe_str (fun _ _ => rfl)) pa_nil)))))
         (pss_one (ps_if (pt_cmpR (op_neA hr.units) (pe_dget (hu_of hr) (pv 3) pe_str (fun _ _ => rfl)) (pe_lst pa_nil) (nomark _))
           (pss_cons (ps_set (i := 6) sc_l_turned.nd rfl (Or.inl rfl) (px_call (ok_l_pick T) (hr.mono (by decide)) rfl (gl__law_pick T) (fun σ => paD σ) (pa_cons (pv 0) (pa_cons (pv 1) (pa_cons (pe_op op_addA (pe_dget (hu_of hr) (pv 3) pe_str (fun _ _ => rfl)) (pe_lst (pa_cons (pe_ifExp (pt_cmpR op_in_seq (pe_dget (hu_of hr) (pv 3) pe_str (fun _ _ => rfl)) (pe_dget (hu_of hr) (pv 3) pe_str (fun _ _ => rfl)) (by rfl)) (pe_dget (hu_of hr) (pv 3) pe_str (fun _ _ => rfl)) (pe_ix ix_seq (pe_dget (hu_of hr) (pv 3) pe_str (fun _ _ => rfl)) pe_int (fun _ _ => rfl))) pa_nil))) pa_nil)))))
            (pss_one (ps_if (pt_cmpR (op_eqA hr.units) (pv 4) pe_int (nomark _))
             (pss_cons (ps_expr (px_meth (ok_Order_remove T) (hr.mono (by decide)) (pv 2) (cl_Order T) (me_Order_remove T) (fun σ => paD σ) (pa_cons (pv 6) (pa_cons (pe_dget (hu_of hr) (pv 3) pe_str (fun _ _ => rfl)) pa_nil))))
              (pss_one (ps_expr (px_call (ok_l_remove T) (hr.mono (by decide)) rfl (gl__law_remove T) (fun σ => paD σ) (pa_cons (pv 3) (pa_cons (pv 6) (pa_cons (pe_dget (hu_of hr) (pv 3) pe_str (fun _ _ => rfl)) pa_nil)))))))
             (pss_cons (ps_set (i := 7) sc_l_turned.nd rfl (Or.inl rfl) (px_call (ok_l_draw T) (hr.mono (by decide)) rfl (gl__law_draw T) (fun σ => paD σ) (pa_cons (pv 0) (pa_cons (pv 1) (pa_cons (pe_callB call_lenA (by rfl) (fr_len T) (by decide +kernel) (pa_cons (pe_dget (hu_of hr) (pv 3) pe_str (fun _ _ => rfl)) pa_nil)) pa_nil)))))
              (pss_cons (ps_expr (px_meth (ok_Queue_move T) (hr.mono (by decide)) (pe_fld (pv 2) rfl) (cl_Queue T) (me_Queue_move T) (fun σ => paD σ) (pa_cons (pv 6) (pa_cons (pv 7) pa_nil))))
              (pss_cons (ps_expr (pe_bm PySem.F.plainAttrs_list PySem.F.slot_list_remove PySem.F.type_list_remove mt_remove (pe_dget (hu_of hr) (pv 3) pe_str (fun _ _ => rfl)) (pa_cons (pv 6) pa_nil)))
              (pss_one (ps_expr (pe_bm PySem.F.plainAttrs_list PySem.F.slot_list_insert PySem.F.type_list_insert mt_ins (pe_dget (hu_of hr) (pv 3) pe_str (fun _ _ => rfl)) (pa_cons (pv 7) (pa_cons (pv 6) pa_nil)))))))))))
           (pss_nil))))))), ?_⟩)
  obtain ⟨a, t0, o, p, ns, m, S, w, R, rfl, hm, ho, hS, h1⟩ := h
  have hl := ho.len
  have etl : (S.q.turn.map V.int).length = S.q.turn.length := List.length_map _
  obtain ⟨t, n, c, r, hS⟩ := (hS.own p).opW
  walk_at "go"
  refine draw_use (by decide) (by omega) (hS.own2 a t0) fun d1 H hd1 hS => ?_
  walk_at "s"
  refine x_dec (fun hA => ?_) (fun hA => ?_)
  · walk_at "s"
    refine draw_use (by decide) (by omega) (hS.own2 a t0) fun d2 H hd2 hS => ?_
    walk_at "s"
    obtain ⟨b, hb⟩ : ∃ b, b = decide ((d2 : Int) = 0) := ⟨_, rfl⟩
    rw [← hb]
    refine ⟨o, b, w, S, _, rfl, ho, hS.own o, fun H hS => ?_⟩
    walk_at "s"
    have hS : Sep (OwnR p S w :: OrderR K o (S.setMixed b w) :: ScrA K a ns :: TownA t0 (m + 1 + 1) :: R) H := (Sep.clW' (S) w t n c r hS (by (try simp only [List.map_nil]); repeat (first | exact En.refl | exact En.nil | refine En.cons ?_ | refine En.drop ?_)))
    refine ⟨p, b, w, S, w, _, rfl, ho, hS, fun H hS => ?_⟩
    walk_at "s"
    exact h1 (m + 1 + 1) (S.setMixed b w) _ (by omega) (ho.setMixed b w) (by rw [S.setMixed_q]; exact Nat.le_refl _) (hS.of (by repeat (first | exact En.refl | exact En.nil | refine En.cons ?_ | refine En.drop ?_)))
  · walk_at "s"
    refine x_dec (fun hB => ?_) (fun hB => ?_)
    · walk_at "s"
      refine pick_use (by intro z; cases z) (by omega) (hS.own3 a t0 u) fun v H hv hS => ?_
      obtain ⟨z, rfl, hz⟩ : ∃ z, v = .str z ∧ okWord z := by
        simp only [List.mem_cons, List.not_mem_nil, or_false] at hv
        rcases hv with rfl | rfl | rfl
        · exact ⟨_, rfl, .inl rfl⟩
        · exact ⟨_, rfl, .inr (.inl rfl)⟩
        · exact ⟨_, rfl, .inr (.inr rfl)⟩
      walk_at "s"
      refine ⟨o, z, S, _, rfl, hS.own o, fun _ H hS => ?_, fun no => absurd hz no⟩
      walk_at "s"
      have hS : Sep (OwnR p { S with ag := z } w :: OrderR K o { S with ag := z } :: ScrA K a ns :: TownA t0 (m + 1 + 1) :: R) _ := (Sep.clW' ({ S with ag := z }) w t n c r hS (by (try simp only [List.map_nil]); repeat (first | exact En.refl | exact En.nil | refine En.cons ?_ | refine En.drop ?_)))
      exact h1 (m + 1 + 1) { S with ag := z } _ (by omega) (ho.again z) (Nat.le_refl _) (hS.of (by repeat (first | exact En.refl | exact En.nil | refine En.cons ?_ | refine En.drop ?_)))
    · walk_at "s"
      refine x_neLn (ns := S.q.turn) (sqL hS) (sqL hS) ?_
      walk_at "s"
      refine x_bool (fun h5 => ?_) (fun h5 => ?_)
      · obtain ⟨y, hy⟩ : ∃ y, S.q.turn[0]? = some y := by
          cases ht : S.q.turn with
          | nil => rw [ht] at h5; cases h5
          | cons y r0 => exact ⟨y, rfl⟩
        have hym : y ∈ S.q.turn := List.mem_of_getElem? hy
        walk_at "s"
        refine x_inO (sqL hS) ?_
        cases hh : hasO w S.q.turn with
        | true =>
          obtain ⟨j, hj, hjm⟩ := has_some hh
          walk_at "s"
          have hS := Sep.lst1 (u := u) (y := V.int j) (by rw [hj] <;> rfl) hS
          refine x_cat hS (by simp only [List.length_map, List.length_drop, List.length_take, List.length_append, List.length_cons, List.length_nil]; exact sz' (by omega)) fun l2 H hS => ?_
          have er : S.q.turn.map V.int ++ [V.int j] = (S.q.turn ++ [j]).map V.int := by rw [List.map_append] <;> rfl
          rw [er] at hS
          walk_at "s"
          refine pick_use (by intro z; have := congrArg List.length z; simp at this) (by omega) (hS.own3 a t0 l2) fun v H hv hS => ?_
          obtain ⟨e, he, rfl⟩ : ∃ e, e ∈ S.q.turn ∧ v = .int e := by
            obtain ⟨e, he, rfl⟩ := List.mem_map.mp hv
            rcases List.mem_append.mp he with he | he
            · exact ⟨e, he, rfl⟩
            · rw [List.mem_singleton.mp he]
              exact ⟨j, hjm, rfl⟩
          walk_at "s"
          refine x_dec (fun hC => ?_) (fun hC => ?_)
          · walk_at "s"
            refine ⟨o, e, w, S, _, rfl, ho, hS.own o, fun _ H hS => ?_, fun no => absurd he no⟩
            walk_at "s"
            have hS : Sep (OwnR p S w :: OrderR K o (S.remove e w) :: ScrA K a ns :: TownA t0 (m + 1 + 1) :: R) H := (Sep.clW' (S) w t n c r hS (by (try simp only [List.map_nil]); repeat (first | exact En.refl | exact En.nil | refine En.cons ?_ | refine En.drop ?_)))
            refine ⟨p, e, w, S, w, _, rfl, ho, he, hS, fun H hS => ?_⟩
            walk_at "s"
            exact h1 (m + 1 + 1) (S.remove e w) _ (by omega) (ho.remove he w) (by rw [S.remove_t]; exact Nat.le_refl _) (hS.of (by repeat (first | exact En.refl | exact En.nil | refine En.cons ?_ | refine En.drop ?_)))
          · walk_at "s"
            refine x_lenL (sqL hS) ?_
            rw [etl]
            walk_at "s"
            have hpos := List.length_pos_of_mem he
            refine draw_use (by omega) (by omega) (hS.own2 a t0) fun d3 H hd3 hS => ?_
            obtain ⟨dx, q, c2, k, hS⟩ := (hS.own o).opO
            have okm : okMove S.q (d3 : Int) := ⟨by omega, hd3⟩
            walk_at "s"
            refine ⟨q, e, d3, S.q, _, rfl, ho.fit, hS.own q, fun _ _ H hS => ?_, fun no => absurd he no, fun _ no => absurd okm no⟩
            walk_at "s"
            refine y_bml (sqL hS) ?_
            walk_at "s"
            refine x_remI hS he fun H hS => ?_
            walk_at "s"
            refine y_bml (sqL hS) ?_
            walk_at "s"
            have := List.length_eraseIdx_le S.q.turn (S.q.turn.idxOf e)
            refine x_insI hS (by omega) ⟨by omega, by omega⟩ fun H hS => ?_
            walk_at "s"
            replace hS : Sep (pt t (.lst ((S.q.move e (d3 : Int).toNat).turn.map V.int)) :: _) H := hS
            have hS : Sep (OrderR K o (S.move e (d3 : Int).toNat) :: pt p (.dK (ownD t n c S.mx S.ag r (oV (gO S.gone S.beh)) (oV w))) :: pt t (.lst ((S.q.move e (d3 : Int).toNat).turn.map V.int)) :: pt n (.lst (S.q.tunes.map V.str)) :: pt c (.lst [.int S.d]) :: pt r (.lst (S.deck.map V.int)) :: ScrA K a ns :: TownA t0 (m + 1 + 1 + 1) :: R) _ := (Sep.clO' (⟨S.q.move e (d3 : Int).toNat, S.d, S.mx, S.ag, S.deck, S.gone, S.beh⟩) dx q c2 k hS (by (try simp only [List.map_nil]); repeat (first | exact En.refl | exact En.nil | refine En.cons ?_ | refine En.drop ?_)))
            have hS : Sep (OwnR p (S.move e (d3 : Int).toNat) w :: OrderR K o (S.move e (d3 : Int).toNat) :: ScrA K a ns :: TownA t0 (m + 1 + 1 + 1) :: R) _ := (Sep.clW' (⟨⟨(S.q.move e (d3 : Int).toNat).turn, S.q.tunes⟩, S.d, S.mx, S.ag, S.deck, S.gone, S.beh⟩) w t n c r hS (by (try simp only [List.map_nil]); repeat (first | exact En.refl | exact En.nil | refine En.cons ?_ | refine En.drop ?_)))
            exact h1 (m + 1 + 1 + 1) (S.move e (d3 : Int).toNat) _ (by omega) (ho.move he _) (Nat.le_refl _) (hS.of (by repeat (first | exact En.refl | exact En.nil | refine En.cons ?_ | refine En.drop ?_)))
        | false =>
          obtain ⟨j, hj⟩ : ∃ j, j = y := ⟨_, rfl⟩
          have hjm : j ∈ S.q.turn := hj ▸ hym
          walk_at "s"
          refine x_ixL (sqL hS) (atI_nat (j := 0) (v := .int j) (by rw [List.getElem?_map, hy, hj] <;> rfl)) ?_
          walk_at "s"
          refine x_cat hS (by simp only [List.length_map, List.length_drop, List.length_take, List.length_append, List.length_cons, List.length_nil]; exact sz' (by omega)) fun l2 H hS => ?_
          have er : S.q.turn.map V.int ++ [V.int j] = (S.q.turn ++ [j]).map V.int := by rw [List.map_append] <;> rfl
          rw [er] at hS
          walk_at "s"
          refine pick_use (by intro z; have := congrArg List.length z; simp at this) (by omega) (hS.own3 a t0 l2) fun v H hv hS => ?_
          obtain ⟨e, he, rfl⟩ : ∃ e, e ∈ S.q.turn ∧ v = .int e := by
            obtain ⟨e, he, rfl⟩ := List.mem_map.mp hv
            rcases List.mem_append.mp he with he | he
            · exact ⟨e, he, rfl⟩
            · rw [List.mem_singleton.mp he]
              exact ⟨j, hjm, rfl⟩
          walk_at "s"
          refine x_dec (fun hC => ?_) (fun hC => ?_)
          · walk_at "s"
            refine ⟨o, e, w, S, _, rfl, ho, hS.own o, fun _ H hS => ?_, fun no => absurd he no⟩
            walk_at "s"
            have hS : Sep (OwnR p S w :: OrderR K o (S.remove e w) :: ScrA K a ns :: TownA t0 (m + 1 + 1) :: R) H := (Sep.clW' (S) w t n c r hS (by (try simp only [List.map_nil]); repeat (first | exact En.refl | exact En.nil | refine En.cons ?_ | refine En.drop ?_)))
            refine ⟨p, e, w, S, w, _, rfl, ho, he, hS, fun H hS => ?_⟩
            walk_at "s"
            exact h1 (m + 1 + 1) (S.remove e w) _ (by omega) (ho.remove he w) (by rw [S.remove_t]; exact Nat.le_refl _) (hS.of (by repeat (first | exact En.refl | exact En.nil | refine En.cons ?_ | refine En.drop ?_)))
          · walk_at "s"
            refine x_lenL (sqL hS) ?_
            rw [etl]
            walk_at "s"
            have hpos := List.length_pos_of_mem he
            refine draw_use (by omega) (by omega) (hS.own2 a t0) fun d3 H hd3 hS => ?_
            obtain ⟨dx, q, c2, k, hS⟩ := (hS.own o).opO
            have okm : okMove S.q (d3 : Int) := ⟨by omega, hd3⟩
            walk_at "s"
            refine ⟨q, e, d3, S.q, _, rfl, ho.fit, hS.own q, fun _ _ H hS => ?_, fun no => absurd he no, fun _ no => absurd okm no⟩
            walk_at "s"
            refine y_bml (sqL hS) ?_
            walk_at "s"
            refine x_remI hS he fun H hS => ?_
            walk_at "s"
            refine y_bml (sqL hS) ?_
            walk_at "s"
            have := List.length_eraseIdx_le S.q.turn (S.q.turn.idxOf e)
            refine x_insI hS (by omega) ⟨by omega, by omega⟩ fun H hS => ?_
            walk_at "s"
            replace hS : Sep (pt t (.lst ((S.q.move e (d3 : Int).toNat).turn.map V.int)) :: _) H := hS
            have hS : Sep (OrderR K o (S.move e (d3 : Int).toNat) :: pt p (.dK (ownD t n c S.mx S.ag r (oV (gO S.gone S.beh)) (oV w))) :: pt t (.lst ((S.q.move e (d3 : Int).toNat).turn.map V.int)) :: pt n (.lst (S.q.tunes.map V.str)) :: pt c (.lst [.int S.d]) :: pt r (.lst (S.deck.map V.int)) :: ScrA K a ns :: TownA t0 (m + 1 + 1 + 1) :: R) _ := (Sep.clO' (⟨S.q.move e (d3 : Int).toNat, S.d, S.mx, S.ag, S.deck, S.gone, S.beh⟩) dx q c2 k hS (by (try simp only [List.map_nil]); repeat (first | exact En.refl | exact En.nil | refine En.cons ?_ | refine En.drop ?_)))
            have hS : Sep (OwnR p (S.move e (d3 : Int).toNat) w :: OrderR K o (S.move e (d3 : Int).toNat) :: ScrA K a ns :: TownA t0 (m + 1 + 1 + 1) :: R) _ := (Sep.clW' (⟨⟨(S.q.move e (d3 : Int).toNat).turn, S.q.tunes⟩, S.d, S.mx, S.ag, S.deck, S.gone, S.beh⟩) w t n c r hS (by (try simp only [List.map_nil]); repeat (first | exact En.refl | exact En.nil | refine En.cons ?_ | refine En.drop ?_)))
            exact h1 (m + 1 + 1 + 1) (S.move e (d3 : Int).toNat) _ (by omega) (ho.move he _) (Nat.le_refl _) (hS.of (by repeat (first | exact En.refl | exact En.nil | refine En.cons ?_ | refine En.drop ?_)))
      · walk_at "s"
        have hS : Sep (OwnR p S w :: OrderR K o S :: ScrA K a ns :: TownA t0 (m + 1) :: R) _ := (Sep.clW' (S) w t n c r hS (by (try simp only [List.map_nil]); repeat (first | exact En.refl | exact En.nil | refine En.cons ?_ | refine En.drop ?_)))
        exact h1 (m + 1) S _ (by omega) ho (Nat.le_refl _) (hS.of (by repeat (first | exact En.refl | exact En.nil | refine En.cons ?_ | refine En.drop ?_)))

end
end TR

set_option Elab.async false
set_option linter.all false
set_option maxRecDepth 100000
set_option maxHeartbeats 4000000
/-! .. -/

namespace TR
open PySem PySem.Spec PyProof.Rows L2
section
variable {P : Program} {w : World} {K : PySem.W.Frag} {mg : Str → Option Value} {base : Heap}
def sp_l_call (K : PySem.W.Frag) : Sp := fun vs H Q E => ∃ (a t0 o p : Addr) (ns : List Int) (m : Nat) (S : OS) (w : Option Int) (R : List As), vs = [.ref a, .ref t0, .ref o, .ref p] ∧ m ≤ 800 ∧ S.Ok ∧ S.q.tunes.length ≤ 900 ∧
  Sep (ScrA K a ns :: TownA t0 m :: OrderR K o S :: OwnR p S w :: R) H ∧
  ∀ m' S' w' H', m' ≤ m + 4 → S'.Ok → S'.q.tunes.length ≤ S.q.tunes.length + 1 → Sep (ScrA K a ns :: TownA t0 m' :: OrderR K o S' :: OwnR p S' w' :: R) H' → Q (.bl true) H'
theorem ln_l_call : ∀ vs H Q E, sp_l_call K vs H Q E → vs.length = (["_law_script", "_law_town", "_law_order_here", "_law_own"] : List Str).length := by
  rintro _ _ _ _ ⟨a, t0, o, p, ns, m, S, w, R, rfl, _⟩
  rfl
theorem sc_l_call : FnScope ["_law_script", "_law_town", "_law_order_here", "_law_own", "_law_way", "_law_place", "_law_due", "_law_found"] ["_law_script", "_law_town", "_law_order_here", "_law_own"] (defScope s_l_call) := ⟨rfl, rfl, rfl, by decide +kernel, rfl, by decide +kernel, by decide +kernel⟩
theorem ok_l_call (T : Top K mg) : OkD P w K mg base d_l_call 6 ["_law_script", "_law_town", "_law_order_here", "_law_own"] (sp_l_call K) := by
  refine okD (df_l_call T) sc_l_call (fun _ _ _ _ _ _ us hl => match us, hl with | [_, _, _, _], _ => rfl) ln_l_call (fun cdv A outer s H vs Q E hr h => ⟨_,
      pss_cons (ps_set (i := 4) sc_l_call.nd rfl (Or.inl rfl) (px_call (ok_l_draw T) (hr.mono (by decide)) rfl (gl__law_draw T) (fun σ => paD σ) (pa_cons (pv 0) (pa_cons (pv 1) (pa_cons pe_int pa_nil)))))
      (pss_cons (ps_if (PW.pt (pw_and (pt_cmpR op_lt (pv 4) pe_int (nomark _)) (pw_and1 (pt_cmpR op_lt (pe_callB call_lenA (by rfl) (fr_len T) (by decide +kernel) (pa_cons (pe_dget (hu_of hr) (pv 3) pe_str (fun _ _ => rfl)) pa_nil)) pe_int (nomark _)))))
       (pss_cons (ps_set (i := 5) sc_l_call.nd rfl (Or.inl rfl) (px_call (ok_l_draw T) (hr.mono (by decide)) rfl (gl__law_draw T) (fun σ => paD σ) (pa_cons (pv 0) (pa_cons (pv 1) (pa_cons (pe_op op_addA (pe_callB call_lenA (by rfl) (fr_len T) (by decide +kernel) (pa_cons (pe_dget (hu_of hr) (pv 3) pe_str (fun _ _ => rfl)) pa_nil)) pe_int) pa_nil)))))
        (pss_one (ps_ret (pe_cmpR (op_eqA hr.units) (px_meth (ok_Order_put T) (hr.mono (by decide)) (pv 2) (cl_Order T) (me_Order_put T) (fun σ => paD σ) (pa_cons pe_str (pa_cons (pv 5) pa_nil))) (px_call (ok_l_put T) (hr.mono (by decide)) rfl (gl__law_put T) (fun σ => paD σ) (pa_cons (pv 3) (pa_cons pe_str (pa_cons (pv 5) pa_nil)))) (nomark _)))))
       (pss_nil))
      (pss_cons (ps_if (pt_cmpR op_lt (pv 4) pe_int (nomark _))
       (pss_cons (ps_expr (px_call (ok_l_turned T) (hr.mono (by decide)) rfl (gl__law_turned T) (fun σ => paD σ) (pa_cons (pv 0) (pa_cons (pv 1) (pa_cons (pv 2) (pa_cons (pv 3) pa_nil))))))
        (pss_one (ps_ret pe_bl)))
       (pss_nil))
      (pss_cons (ps_if (pt_cmpR (op_eqA hr.units) (pv 4) pe_int (nomark _))
       (pss_cons (ps_set (i := 6) sc_l_call.nd rfl (Or.inl rfl) (px_call (ok_l_first T) (hr.mono (by decide)) rfl (gl__law_first T) (fun σ => paD σ) (pa_cons (pv 3) pa_nil)))
        (pss_one (ps_set (i := 7) sc_l_call.nd rfl (Or.inl rfl) (px_meth0 (ok_Order_first T) (hr.mono (by decide)) (pv 2) (cl_Order T) (me_Order_first T) (fun σ => paD σ)))))
       (pss_cons (ps_set (i := 6) sc_l_call.nd rfl (Or.inl rfl) (pe_ifExp (pt_cmpR (op_eqA hr.units) (pv 4) pe_int (nomark _)) (px_call (ok_l_after T) (hr.mono (by decide)) rfl (gl__law_after T) (fun σ => paD σ) (pa_cons (pv 3) (pa_cons (pe_dget (hu_of hr) (pv 3) pe_str (fun _ _ => rfl)) pa_nil))) (px_call (ok_l_skip T) (hr.mono (by decide)) rfl (gl__law_skip T) (fun σ => paD σ) (pa_cons (pv 3) (pa_cons (pe_dget (hu_of hr) (pv 3) pe_str (fun _ _ => rfl)) pa_nil)))))
        (pss_one (ps_set (i := 7) sc_l_call.nd rfl (Or.inl rfl) (pe_ifExp (pt_cmpR (op_eqA hr.units) (pv 4) pe_int (nomark _)) (px_meth (ok_Order_after T) (hr.mono (by decide)) (pv 2) (cl_Order T) (me_Order_after T) (fun σ => paD σ) (pa_cons (pe_dget (hu_of hr) (pv 3) pe_str (fun _ _ => rfl)) pa_nil)) (px_meth (ok_Order_skip T) (hr.mono (by decide)) (pv 2) (cl_Order T) (me_Order_skip T) (fun σ => paD σ) (pa_cons (pe_dget (hu_of hr) (pv 3) pe_str (fun _ _ => rfl)) pa_nil)))))))
      (pss_cons (ps_if (PW.pt (pw_or (pt_cmpR (op_neA hr.units) (pv 7) (pv 6) (nomark _)) (pw_or1 (pt_cmpR (op_neA hr.units) (pe_cmpR op_isN1 (pv 7) pe_non (nomark _)) (pe_cmpR op_isN1 (pv 6) pe_non (nomark _)) (nomark _)))))
       (pss_one (ps_ret pe_bl))
       (pss_nil))
      (pss_cons (ps_if (PW.pt (pw_and (pt_cmpR op_isN1 (pv 6) pe_non (nomark _)) (pw_and1 (pt_cmpR op_gt (px_call (ok_l_draw T) (hr.mono (by decide)) rfl (gl__law_draw T) (fun σ => paD σ) (pa_cons (pv 0) (pa_cons (pv 1) (pa_cons pe_int pa_nil)))) pe_int (nomark _)))))
       (pss_one (ps_dput (hu_of hr) (pv 3) pe_str pe_non rfl))
       (pss_nil))
      (pss_cons (ps_if (pt_cmpR op_notN1 (pv 6) pe_non (nomark _))
       (pss_cons (ps_dput (hu_of hr) (pv 3) pe_str (pv 6) rfl)
        (pss_cons (ps_expr (px_meth (ok_Order_began T) (hr.mono (by decide)) (pv 2) (cl_Order T) (me_Order_began T) (fun σ => paD σ) (pa_cons (pv 6) pa_nil)))
        (pss_one (ps_expr (px_call (ok_l_began T) (hr.mono (by decide)) rfl (gl__law_began T) (fun σ => paD σ) (pa_cons (pv 3) (pa_cons (pv 6) pa_nil)))))))
       (pss_nil))
      (pss_one (ps_ret pe_bl)))))))), ?_⟩)
  obtain ⟨a, t0, o, p, ns, m, S, w, R, rfl, hm, ho, ht, hS, h1⟩ := h
  have hl := ho.len
  have etl : (S.q.turn.map V.int).length = S.q.turn.length := List.length_map _
  obtain ⟨t, n, c, r, hS⟩ := (hS.own p).opW
  walk_at "go"
  refine draw_use (by decide) (by omega) (hS.own2 a t0) fun d1 H hd1 hS => ?_
  walk_at "s"
  have more : ∀ {H : Hp}, Sep (OwnR p S w :: OrderR K o S :: ScrA K a ns :: TownA t0 (m + 1) :: R) H → True := fun _ => trivial
  refine x_dec (fun hA => ?_) (fun hA => ?_)
  · walk_at "s"
    refine x_lenL (sqL hS) ?_
    rw [etl]
    walk_at "s"
    refine x_dec (fun hB => ?_) (fun hB => ?_)
    · walk_at "s"
      refine x_lenL (sqL hS) ?_
      rw [etl]
      walk_at "s"
      refine draw_use (by omega) (by omega) (hS.own2 a t0) fun d2 H hd2 hS => ?_
      have ok : okPut S.q (d2 : Int) := ⟨by omega, by omega, by omega⟩
      walk_at "s"
      refine ⟨o, "a", d2, S, _, rfl, ho, hS.own o, fun _ H hS => ?_, fun no => absurd ok no⟩
      rw [Int.toNat_natCast] at hS
      walk_at "s"
      have hS : Sep (OwnR p S w :: OrderR K o (S.put "a" d2) :: ScrA K a ns :: TownA t0 (m + 1 + 1) :: R) H := (Sep.clW' (S) w t n c r hS (by (try simp only [List.map_nil]); repeat (first | exact En.refl | exact En.nil | refine En.cons ?_ | refine En.drop ?_)))
      refine ⟨p, "a", d2, S, w, _, rfl, ho, by omega, hS, fun H hS => ?_⟩
      walk_at "s"
      have hk := ho.put (z := "a") ok (by omega)
      rw [Int.toNat_natCast] at hk
      rw [decide_eq_true rfl]
      exact h1 (m + 1 + 1) (S.put "a" d2) w _ (by omega) hk (by rw [S.put_t, List.length_append, List.length_singleton]; exact Nat.le_refl _) (hS.of (by repeat (first | exact En.refl | exact En.nil | refine En.cons ?_ | refine En.drop ?_)))
    · walk_at "s"
      refine x_dec (fun hC => ?_) (fun hC => ?_)
      · walk_at "s"
        have hS : Sep (ScrA K a ns :: TownA t0 (m + 1) :: OrderR K o S :: OwnR p S w :: R) H := by
          have hS : Sep (OwnR p S w :: OrderR K o S :: ScrA K a ns :: TownA t0 (m + 1) :: R) H := (Sep.clW' (S) w t n c r hS (by (try simp only [List.map_nil]); repeat (first | exact En.refl | exact En.nil | refine En.cons ?_ | refine En.drop ?_)))
          exact (hS.of (by repeat (first | exact En.refl | exact En.nil | refine En.cons ?_ | refine En.drop ?_)))
        refine ⟨a, t0, o, p, ns, m + 1, S, w, R, rfl, by omega, ho, hS, fun m' S' H hm' ho' hq' hS => ?_⟩
        walk_at "s"
        exact h1 m' S' w _ (by omega) ho' (by omega) hS
      · walk_at "s"
        refine x_dec (fun hD => ?_) (fun hD => ?_)
        · walk_at "s"
          have hS : Sep (OwnR p S w :: OrderR K o S :: ScrA K a ns :: TownA t0 (m + 1) :: R) H := (Sep.clW' (S) w t n c r hS (by (try simp only [List.map_nil]); repeat (first | exact En.refl | exact En.nil | refine En.cons ?_ | refine En.drop ?_)))
          refine ⟨p, S, w, _, rfl, ho, hS, fun H hS => ?_⟩
          obtain ⟨S1, e1⟩ : ∃ S1, S1 = (S.first).1 := ⟨_, rfl⟩
          obtain ⟨res, e2⟩ : ∃ res, res = (S.first).2 := ⟨_, rfl⟩
          have ho1 : S1.Ok := e1 ▸ ho.first
          have hq : S1.q = S.q := e1 ▸ S.first_q
          rw [← e1] at hS
          rw [← e2]
          obtain ⟨t, n, c, r, hS⟩ := hS.opW
          walk_at "s"
          refine ⟨o, S, _, rfl, ho, hS.own o, fun H hS => ?_⟩
          rw [← e1] at hS
          rw [← e2]
          walk_at "s"
          refine x_neO ?_
          walk_at "s"
          refine x_ndec (fun z => absurd rfl z) (fun _ => ?_)
          walk_at "s"
          refine x_neS rfl ?_
          walk_at "s"
          refine x_ndec (fun z => absurd rfl z) (fun _ => ?_)
          walk_at "s"
          cases hres : res with
          | none =>
            refine x_yes rfl ?_
            walk_at "s"
            refine draw_use (by decide) (by omega) (hS.own2 a t0) fun d3 H hd3 hS => ?_
            walk_at "s"
            refine x_dec (fun hz => ?_) (fun hz => ?_)
            · walk_at "s"
              refine x_no rfl ?_
              walk_at "s"
              replace hS : Sep (pt p (.dK (ownD t n c S1.mx S1.ag r (oV (gO S1.gone S1.beh)) (oV none))) :: _) H := hS
              have hS : Sep (OwnR p S1 none :: OrderR K o S1 :: ScrA K a ns :: TownA t0 (m + 1 + 1) :: R) H := (Sep.clW' (S1) none t n c r hS (by (try simp only [List.map_nil]); repeat (first | exact En.refl | exact En.nil | refine En.cons ?_ | refine En.drop ?_)))
              exact h1 (m + 1 + 1) S1 none _ (by omega) ho1 (by rw [hq]; omega) (hS.of (by repeat (first | exact En.refl | exact En.nil | refine En.cons ?_ | refine En.drop ?_)))
            · walk_at "s"
              refine x_no rfl ?_
              walk_at "s"
              have hS : Sep (OwnR p S1 w :: OrderR K o S1 :: ScrA K a ns :: TownA t0 (m + 1 + 1) :: R) H := (Sep.clW' (S1) w t n c r hS (by (try simp only [List.map_nil]); repeat (first | exact En.refl | exact En.nil | refine En.cons ?_ | refine En.drop ?_)))
              exact h1 (m + 1 + 1) S1 w _ (by omega) ho1 (by rw [hq]; omega) (hS.of (by repeat (first | exact En.refl | exact En.nil | refine En.cons ?_ | refine En.drop ?_)))
          | some e =>
            refine x_no rfl ?_
            walk_at "s"
            refine x_yes rfl ?_
            walk_at "s"
            refine ⟨o, e, S1, _, rfl, ho1, hS.own o, fun H hS => ?_⟩
            walk_at "s"
            have hS : Sep (OwnR p S1 (some e) :: OrderR K o (S1.began e) :: ScrA K a ns :: TownA t0 (m + 1) :: R) H := (Sep.clW' (S1) (some e) t n c r hS (by (try simp only [List.map_nil]); repeat (first | exact En.refl | exact En.nil | refine En.cons ?_ | refine En.drop ?_)))
            refine ⟨p, e, S1, some e, _, rfl, ho1, hS, fun H hS => ?_⟩
            walk_at "s"
            exact h1 (m + 1) (S1.began e) (some e) _ (by omega) (ho1.began e) (show S1.q.tunes.length ≤ _ by rw [hq]; omega) (hS.of (by repeat (first | exact En.refl | exact En.nil | refine En.cons ?_ | refine En.drop ?_)))
        · walk_at "s"
          refine x_dec (fun hF => ?_) (fun hF => ?_)
          · walk_at "s"
            have hS : Sep (OwnR p S w :: OrderR K o S :: ScrA K a ns :: TownA t0 (m + 1) :: R) H := (Sep.clW' (S) w t n c r hS (by (try simp only [List.map_nil]); repeat (first | exact En.refl | exact En.nil | refine En.cons ?_ | refine En.drop ?_)))
            refine ⟨p, w, S, w, _, rfl, ho, hS, fun H hS => ?_⟩
            obtain ⟨S1, e1⟩ : ∃ S1, S1 = (S.after w).1 := ⟨_, rfl⟩
            obtain ⟨res, e2⟩ : ∃ res, res = (S.after w).2 := ⟨_, rfl⟩
            have ho1 : S1.Ok := e1 ▸ ho.after w
            have hq : S1.q = S.q := e1 ▸ S.after_q w
            rw [← e1] at hS
            rw [← e2]
            obtain ⟨t, n, c, r, hS⟩ := hS.opW
            walk_at "s"
            refine x_yes (decide_eq_true hF) ?_
            walk_at "s"
            refine ⟨o, w, S, _, rfl, ho, hS.own o, fun H hS => ?_⟩
            rw [← e1] at hS
            rw [← e2]
            walk_at "s"
            refine x_neO ?_
            walk_at "s"
            refine x_ndec (fun z => absurd rfl z) (fun _ => ?_)
            walk_at "s"
            refine x_neS rfl ?_
            walk_at "s"
            refine x_ndec (fun z => absurd rfl z) (fun _ => ?_)
            walk_at "s"
            cases hres : res with
            | none =>
              refine x_yes rfl ?_
              walk_at "s"
              refine draw_use (by decide) (by omega) (hS.own2 a t0) fun d3 H hd3 hS => ?_
              walk_at "s"
              refine x_dec (fun hz => ?_) (fun hz => ?_)
              · walk_at "s"
                refine x_no rfl ?_
                walk_at "s"
                replace hS : Sep (pt p (.dK (ownD t n c S1.mx S1.ag r (oV (gO S1.gone S1.beh)) (oV none))) :: _) H := hS
                have hS : Sep (OwnR p S1 none :: OrderR K o S1 :: ScrA K a ns :: TownA t0 (m + 1 + 1) :: R) H := (Sep.clW' (S1) none t n c r hS (by (try simp only [List.map_nil]); repeat (first | exact En.refl | exact En.nil | refine En.cons ?_ | refine En.drop ?_)))
                exact h1 (m + 1 + 1) S1 none _ (by omega) ho1 (by rw [hq]; omega) (hS.of (by repeat (first | exact En.refl | exact En.nil | refine En.cons ?_ | refine En.drop ?_)))
              · walk_at "s"
                refine x_no rfl ?_
                walk_at "s"
                have hS : Sep (OwnR p S1 w :: OrderR K o S1 :: ScrA K a ns :: TownA t0 (m + 1 + 1) :: R) H := (Sep.clW' (S1) w t n c r hS (by (try simp only [List.map_nil]); repeat (first | exact En.refl | exact En.nil | refine En.cons ?_ | refine En.drop ?_)))
                exact h1 (m + 1 + 1) S1 w _ (by omega) ho1 (by rw [hq]; omega) (hS.of (by repeat (first | exact En.refl | exact En.nil | refine En.cons ?_ | refine En.drop ?_)))
            | some e =>
              refine x_no rfl ?_
              walk_at "s"
              refine x_yes rfl ?_
              walk_at "s"
              refine ⟨o, e, S1, _, rfl, ho1, hS.own o, fun H hS => ?_⟩
              walk_at "s"
              have hS : Sep (OwnR p S1 (some e) :: OrderR K o (S1.began e) :: ScrA K a ns :: TownA t0 (m + 1) :: R) H := (Sep.clW' (S1) (some e) t n c r hS (by (try simp only [List.map_nil]); repeat (first | exact En.refl | exact En.nil | refine En.cons ?_ | refine En.drop ?_)))
              refine ⟨p, e, S1, some e, _, rfl, ho1, hS, fun H hS => ?_⟩
              walk_at "s"
              exact h1 (m + 1) (S1.began e) (some e) _ (by omega) (ho1.began e) (show S1.q.tunes.length ≤ _ by rw [hq]; omega) (hS.of (by repeat (first | exact En.refl | exact En.nil | refine En.cons ?_ | refine En.drop ?_)))
          · walk_at "s"
            have hS : Sep (OwnR p S w :: OrderR K o S :: ScrA K a ns :: TownA t0 (m + 1) :: R) H := (Sep.clW' (S) w t n c r hS (by (try simp only [List.map_nil]); repeat (first | exact En.refl | exact En.nil | refine En.cons ?_ | refine En.drop ?_)))
            refine ⟨p, w, S, w, _, rfl, ho, hS, fun H hS => ?_⟩
            obtain ⟨S1, e1⟩ : ∃ S1, S1 = (S.skip w).1 := ⟨_, rfl⟩
            obtain ⟨res, e2⟩ : ∃ res, res = (S.skip w).2 := ⟨_, rfl⟩
            have ho1 : S1.Ok := e1 ▸ ho.skip w
            have hq : S1.q = S.q := e1 ▸ S.skip_q w
            rw [← e1] at hS
            rw [← e2]
            obtain ⟨t, n, c, r, hS⟩ := hS.opW
            walk_at "s"
            refine x_no (decide_eq_false hF) ?_
            walk_at "s"
            refine ⟨o, w, S, _, rfl, ho, hS.own o, fun H hS => ?_⟩
            rw [← e1] at hS
            rw [← e2]
            walk_at "s"
            refine x_neO ?_
            walk_at "s"
            refine x_ndec (fun z => absurd rfl z) (fun _ => ?_)
            walk_at "s"
            refine x_neS rfl ?_
            walk_at "s"
            refine x_ndec (fun z => absurd rfl z) (fun _ => ?_)
            walk_at "s"
            cases hres : res with
            | none =>
              refine x_yes rfl ?_
              walk_at "s"
              refine draw_use (by decide) (by omega) (hS.own2 a t0) fun d3 H hd3 hS => ?_
              walk_at "s"
              refine x_dec (fun hz => ?_) (fun hz => ?_)
              · walk_at "s"
                refine x_no rfl ?_
                walk_at "s"
                replace hS : Sep (pt p (.dK (ownD t n c S1.mx S1.ag r (oV (gO S1.gone S1.beh)) (oV none))) :: _) H := hS
                have hS : Sep (OwnR p S1 none :: OrderR K o S1 :: ScrA K a ns :: TownA t0 (m + 1 + 1) :: R) H := (Sep.clW' (S1) none t n c r hS (by (try simp only [List.map_nil]); repeat (first | exact En.refl | exact En.nil | refine En.cons ?_ | refine En.drop ?_)))
                exact h1 (m + 1 + 1) S1 none _ (by omega) ho1 (by rw [hq]; omega) (hS.of (by repeat (first | exact En.refl | exact En.nil | refine En.cons ?_ | refine En.drop ?_)))
              · walk_at "s"
                refine x_no rfl ?_
                walk_at "s"
                have hS : Sep (OwnR p S1 w :: OrderR K o S1 :: ScrA K a ns :: TownA t0 (m + 1 + 1) :: R) H := (Sep.clW' (S1) w t n c r hS (by (try simp only [List.map_nil]); repeat (first | exact En.refl | exact En.nil | refine En.cons ?_ | refine En.drop ?_)))
                exact h1 (m + 1 + 1) S1 w _ (by omega) ho1 (by rw [hq]; omega) (hS.of (by repeat (first | exact En.refl | exact En.nil | refine En.cons ?_ | refine En.drop ?_)))
            | some e =>
              refine x_no rfl ?_
              walk_at "s"
              refine x_yes rfl ?_
              walk_at "s"
              refine ⟨o, e, S1, _, rfl, ho1, hS.own o, fun H hS => ?_⟩
              walk_at "s"
              have hS : Sep (OwnR p S1 (some e) :: OrderR K o (S1.began e) :: ScrA K a ns :: TownA t0 (m + 1) :: R) H := (Sep.clW' (S1) (some e) t n c r hS (by (try simp only [List.map_nil]); repeat (first | exact En.refl | exact En.nil | refine En.cons ?_ | refine En.drop ?_)))
              refine ⟨p, e, S1, some e, _, rfl, ho1, hS, fun H hS => ?_⟩
              walk_at "s"
              exact h1 (m + 1) (S1.began e) (some e) _ (by omega) (ho1.began e) (show S1.q.tunes.length ≤ _ by rw [hq]; omega) (hS.of (by repeat (first | exact En.refl | exact En.nil | refine En.cons ?_ | refine En.drop ?_)))
  · walk_at "s"
    refine x_dec (fun hC => ?_) (fun hC => ?_)
    · walk_at "s"
      have hS : Sep (ScrA K a ns :: TownA t0 (m + 1) :: OrderR K o S :: OwnR p S w :: R) H := by
        have hS : Sep (OwnR p S w :: OrderR K o S :: ScrA K a ns :: TownA t0 (m + 1) :: R) H := (Sep.clW' (S) w t n c r hS (by (try simp only [List.map_nil]); repeat (first | exact En.refl | exact En.nil | refine En.cons ?_ | refine En.drop ?_)))
        exact (hS.of (by repeat (first | exact En.refl | exact En.nil | refine En.cons ?_ | refine En.drop ?_)))
      refine ⟨a, t0, o, p, ns, m + 1, S, w, R, rfl, by omega, ho, hS, fun m' S' H hm' ho' hq' hS => ?_⟩
      walk_at "s"
      exact h1 m' S' w _ (by omega) ho' (by omega) hS
    · walk_at "s"
      refine x_dec (fun hD => ?_) (fun hD => ?_)
      · walk_at "s"
        have hS : Sep (OwnR p S w :: OrderR K o S :: ScrA K a ns :: TownA t0 (m + 1) :: R) H := (Sep.clW' (S) w t n c r hS (by (try simp only [List.map_nil]); repeat (first | exact En.refl | exact En.nil | refine En.cons ?_ | refine En.drop ?_)))
        refine ⟨p, S, w, _, rfl, ho, hS, fun H hS => ?_⟩
        obtain ⟨S1, e1⟩ : ∃ S1, S1 = (S.first).1 := ⟨_, rfl⟩
        obtain ⟨res, e2⟩ : ∃ res, res = (S.first).2 := ⟨_, rfl⟩
        have ho1 : S1.Ok := e1 ▸ ho.first
        have hq : S1.q = S.q := e1 ▸ S.first_q
        rw [← e1] at hS
        rw [← e2]
        obtain ⟨t, n, c, r, hS⟩ := hS.opW
        walk_at "s"
        refine ⟨o, S, _, rfl, ho, hS.own o, fun H hS => ?_⟩
        rw [← e1] at hS
        rw [← e2]
        walk_at "s"
        refine x_neO ?_
        walk_at "s"
        refine x_ndec (fun z => absurd rfl z) (fun _ => ?_)
        walk_at "s"
        refine x_neS rfl ?_
        walk_at "s"
        refine x_ndec (fun z => absurd rfl z) (fun _ => ?_)
        walk_at "s"
        cases hres : res with
        | none =>
          refine x_yes rfl ?_
          walk_at "s"
          refine draw_use (by decide) (by omega) (hS.own2 a t0) fun d3 H hd3 hS => ?_
          walk_at "s"
          refine x_dec (fun hz => ?_) (fun hz => ?_)
          · walk_at "s"
            refine x_no rfl ?_
            walk_at "s"
            replace hS : Sep (pt p (.dK (ownD t n c S1.mx S1.ag r (oV (gO S1.gone S1.beh)) (oV none))) :: _) H := hS
            have hS : Sep (OwnR p S1 none :: OrderR K o S1 :: ScrA K a ns :: TownA t0 (m + 1 + 1) :: R) H := (Sep.clW' (S1) none t n c r hS (by (try simp only [List.map_nil]); repeat (first | exact En.refl | exact En.nil | refine En.cons ?_ | refine En.drop ?_)))
            exact h1 (m + 1 + 1) S1 none _ (by omega) ho1 (by rw [hq]; omega) (hS.of (by repeat (first | exact En.refl | exact En.nil | refine En.cons ?_ | refine En.drop ?_)))
          · walk_at "s"
            refine x_no rfl ?_
            walk_at "s"
            have hS : Sep (OwnR p S1 w :: OrderR K o S1 :: ScrA K a ns :: TownA t0 (m + 1 + 1) :: R) H := (Sep.clW' (S1) w t n c r hS (by (try simp only [List.map_nil]); repeat (first | exact En.refl | exact En.nil | refine En.cons ?_ | refine En.drop ?_)))
            exact h1 (m + 1 + 1) S1 w _ (by omega) ho1 (by rw [hq]; omega) (hS.of (by repeat (first | exact En.refl | exact En.nil | refine En.cons ?_ | refine En.drop ?_)))
        | some e =>
          refine x_no rfl ?_
          walk_at "s"
          refine x_yes rfl ?_
          walk_at "s"
          refine ⟨o, e, S1, _, rfl, ho1, hS.own o, fun H hS => ?_⟩
          walk_at "s"
          have hS : Sep (OwnR p S1 (some e) :: OrderR K o (S1.began e) :: ScrA K a ns :: TownA t0 (m + 1) :: R) H := (Sep.clW' (S1) (some e) t n c r hS (by (try simp only [List.map_nil]); repeat (first | exact En.refl | exact En.nil | refine En.cons ?_ | refine En.drop ?_)))
          refine ⟨p, e, S1, some e, _, rfl, ho1, hS, fun H hS => ?_⟩
          walk_at "s"
          exact h1 (m + 1) (S1.began e) (some e) _ (by omega) (ho1.began e) (show S1.q.tunes.length ≤ _ by rw [hq]; omega) (hS.of (by repeat (first | exact En.refl | exact En.nil | refine En.cons ?_ | refine En.drop ?_)))
      · walk_at "s"
        refine x_dec (fun hF => ?_) (fun hF => ?_)
        · walk_at "s"
          have hS : Sep (OwnR p S w :: OrderR K o S :: ScrA K a ns :: TownA t0 (m + 1) :: R) H := (Sep.clW' (S) w t n c r hS (by (try simp only [List.map_nil]); repeat (first | exact En.refl | exact En.nil | refine En.cons ?_ | refine En.drop ?_)))
          refine ⟨p, w, S, w, _, rfl, ho, hS, fun H hS => ?_⟩
          obtain ⟨S1, e1⟩ : ∃ S1, S1 = (S.after w).1 := ⟨_, rfl⟩
          obtain ⟨res, e2⟩ : ∃ res, res = (S.after w).2 := ⟨_, rfl⟩
          have ho1 : S1.Ok := e1 ▸ ho.after w
          have hq : S1.q = S.q := e1 ▸ S.after_q w
          rw [← e1] at hS
          rw [← e2]
          obtain ⟨t, n, c, r, hS⟩ := hS.opW
          walk_at "s"
          refine x_yes (decide_eq_true hF) ?_
          walk_at "s"
          refine ⟨o, w, S, _, rfl, ho, hS.own o, fun H hS => ?_⟩
          rw [← e1] at hS
          rw [← e2]
          walk_at "s"
          refine x_neO ?_
          walk_at "s"
          refine x_ndec (fun z => absurd rfl z) (fun _ => ?_)
          walk_at "s"
          refine x_neS rfl ?_
          walk_at "s"
          refine x_ndec (fun z => absurd rfl z) (fun _ => ?_)
          walk_at "s"
          cases hres : res with
          | none =>
            refine x_yes rfl ?_
            walk_at "s"
            refine draw_use (by decide) (by omega) (hS.own2 a t0) fun d3 H hd3 hS => ?_
            walk_at "s"
            refine x_dec (fun hz => ?_) (fun hz => ?_)
            · walk_at "s"
              refine x_no rfl ?_
              walk_at "s"
              replace hS : Sep (pt p (.dK (ownD t n c S1.mx S1.ag r (oV (gO S1.gone S1.beh)) (oV none))) :: _) H := hS
              have hS : Sep (OwnR p S1 none :: OrderR K o S1 :: ScrA K a ns :: TownA t0 (m + 1 + 1) :: R) H := (Sep.clW' (S1) none t n c r hS (by (try simp only [List.map_nil]); repeat (first | exact En.refl | exact En.nil | refine En.cons ?_ | refine En.drop ?_)))
              exact h1 (m + 1 + 1) S1 none _ (by omega) ho1 (by rw [hq]; omega) (hS.of (by repeat (first | exact En.refl | exact En.nil | refine En.cons ?_ | refine En.drop ?_)))
            · walk_at "s"
              refine x_no rfl ?_
              walk_at "s"
              have hS : Sep (OwnR p S1 w :: OrderR K o S1 :: ScrA K a ns :: TownA t0 (m + 1 + 1) :: R) H := (Sep.clW' (S1) w t n c r hS (by (try simp only [List.map_nil]); repeat (first | exact En.refl | exact En.nil | refine En.cons ?_ | refine En.drop ?_)))
              exact h1 (m + 1 + 1) S1 w _ (by omega) ho1 (by rw [hq]; omega) (hS.of (by repeat (first | exact En.refl | exact En.nil | refine En.cons ?_ | refine En.drop ?_)))
          | some e =>
            refine x_no rfl ?_
            walk_at "s"
            refine x_yes rfl ?_
            walk_at "s"
            refine ⟨o, e, S1, _, rfl, ho1, hS.own o, fun H hS => ?_⟩
            walk_at "s"
            have hS : Sep (OwnR p S1 (some e) :: OrderR K o (S1.began e) :: ScrA K a ns :: TownA t0 (m + 1) :: R) H := (Sep.clW' (S1) (some e) t n c r hS (by (try simp only [List.map_nil]); repeat (first | exact En.refl | exact En.nil | refine En.cons ?_ | refine En.drop ?_)))
            refine ⟨p, e, S1, some e, _, rfl, ho1, hS, fun H hS => ?_⟩
            walk_at "s"
            exact h1 (m + 1) (S1.began e) (some e) _ (by omega) (ho1.began e) (show S1.q.tunes.length ≤ _ by rw [hq]; omega) (hS.of (by repeat (first | exact En.refl | exact En.nil | refine En.cons ?_ | refine En.drop ?_)))
        · walk_at "s"
          have hS : Sep (OwnR p S w :: OrderR K o S :: ScrA K a ns :: TownA t0 (m + 1) :: R) H := (Sep.clW' (S) w t n c r hS (by (try simp only [List.map_nil]); repeat (first | exact En.refl | exact En.nil | refine En.cons ?_ | refine En.drop ?_)))
          refine ⟨p, w, S, w, _, rfl, ho, hS, fun H hS => ?_⟩
          obtain ⟨S1, e1⟩ : ∃ S1, S1 = (S.skip w).1 := ⟨_, rfl⟩
          obtain ⟨res, e2⟩ : ∃ res, res = (S.skip w).2 := ⟨_, rfl⟩
          have ho1 : S1.Ok := e1 ▸ ho.skip w
          have hq : S1.q = S.q := e1 ▸ S.skip_q w
          rw [← e1] at hS
          rw [← e2]
          obtain ⟨t, n, c, r, hS⟩ := hS.opW
          walk_at "s"
          refine x_no (decide_eq_false hF) ?_
          walk_at "s"
          refine ⟨o, w, S, _, rfl, ho, hS.own o, fun H hS => ?_⟩
          rw [← e1] at hS
          rw [← e2]
          walk_at "s"
          refine x_neO ?_
          walk_at "s"
          refine x_ndec (fun z => absurd rfl z) (fun _ => ?_)
          walk_at "s"
          refine x_neS rfl ?_
          walk_at "s"
          refine x_ndec (fun z => absurd rfl z) (fun _ => ?_)
          walk_at "s"
          cases hres : res with
          | none =>
            refine x_yes rfl ?_
            walk_at "s"
            refine draw_use (by decide) (by omega) (hS.own2 a t0) fun d3 H hd3 hS => ?_
            walk_at "s"
            refine x_dec (fun hz => ?_) (fun hz => ?_)
            · walk_at "s"
              refine x_no rfl ?_
              walk_at "s"
              replace hS : Sep (pt p (.dK (ownD t n c S1.mx S1.ag r (oV (gO S1.gone S1.beh)) (oV none))) :: _) H := hS
              have hS : Sep (OwnR p S1 none :: OrderR K o S1 :: ScrA K a ns :: TownA t0 (m + 1 + 1) :: R) H := (Sep.clW' (S1) none t n c r hS (by (try simp only [List.map_nil]); repeat (first | exact En.refl | exact En.nil | refine En.cons ?_ | refine En.drop ?_)))
              exact h1 (m + 1 + 1) S1 none _ (by omega) ho1 (by rw [hq]; omega) (hS.of (by repeat (first | exact En.refl | exact En.nil | refine En.cons ?_ | refine En.drop ?_)))
            · walk_at "s"
              refine x_no rfl ?_
              walk_at "s"
              have hS : Sep (OwnR p S1 w :: OrderR K o S1 :: ScrA K a ns :: TownA t0 (m + 1 + 1) :: R) H := (Sep.clW' (S1) w t n c r hS (by (try simp only [List.map_nil]); repeat (first | exact En.refl | exact En.nil | refine En.cons ?_ | refine En.drop ?_)))
              exact h1 (m + 1 + 1) S1 w _ (by omega) ho1 (by rw [hq]; omega) (hS.of (by repeat (first | exact En.refl | exact En.nil | refine En.cons ?_ | refine En.drop ?_)))
          | some e =>
            refine x_no rfl ?_
            walk_at "s"
            refine x_yes rfl ?_
            walk_at "s"
            refine ⟨o, e, S1, _, rfl, ho1, hS.own o, fun H hS => ?_⟩
            walk_at "s"
            have hS : Sep (OwnR p S1 (some e) :: OrderR K o (S1.began e) :: ScrA K a ns :: TownA t0 (m + 1) :: R) H := (Sep.clW' (S1) (some e) t n c r hS (by (try simp only [List.map_nil]); repeat (first | exact En.refl | exact En.nil | refine En.cons ?_ | refine En.drop ?_)))
            refine ⟨p, e, S1, some e, _, rfl, ho1, hS, fun H hS => ?_⟩
            walk_at "s"
            exact h1 (m + 1) (S1.began e) (some e) _ (by omega) (ho1.began e) (show S1.q.tunes.length ≤ _ by rw [hq]; omega) (hS.of (by repeat (first | exact En.refl | exact En.nil | refine En.cons ?_ | refine En.drop ?_)))

end
end TR

set_option Elab.async false
set_option linter.all false
set_option maxRecDepth 100000
set_option maxHeartbeats 4000000
/-! .. -/

namespace TR
open PySem PySem.Spec PyProof.Rows L2
section
variable {P : Program} {w : World} {K : PySem.W.Frag} {mg : Str → Option Value} {base : Heap}
/-- tuples ("refused", "number") stand at us -/
def RefsP (us : List Addr) : As := fun h => ∀ u ∈ us, h u = some (.tup [.str "refused", .str Kd.number.txt])
theorem RefsP.dp {us : List Addr} {H h : Hp} (s : Sb h H) (r : RefsP us h) : DpAll K H (us.map V.ref) (us.map fun _ => refD .number) := by
  induction us with
  | nil => exact .nil
  | cons u us ih => exact .cons (.tup (SqT.of (s _ _ (r u List.mem_cons_self))) (.cons (.str _) (.cons (.str _) .nil))) (ih fun w hw => r w (List.mem_cons_of_mem _ hw))
theorem OS.new_ok {s : Int} (h : okSeed s) : (OS.new s).Ok := ⟨List.nodup_nil, List.nodup_nil, fun _ z => (by cases z), fun _ z => (by cases z), Nat.zero_le _, Nat.zero_le _, h, fun _ z => (by cases z)⟩
theorem sc_law : FnScope ["_law_script", "_law_town", "_law_seed", "_law_order_here", "_law_own", "_law_k", "_law_bad"] ["_law_script"] (defScope s_law) := ⟨rfl, rfl, rfl, by decide +kernel, rfl, by decide +kernel, by decide +kernel⟩
theorem ok_law (T : Top K mg) : OkD P w K mg base d_law 7 ["_law_script"] (sp_law K) := by
  refine okD (df_law T) sc_law (fun _ _ _ _ _ _ us hl => match us, hl with | [_], _ => rfl) ln_law (fun cdv A outer s H vs Q E hr h => ⟨_,
      pss_cons (ps_set (i := 1) sc_law.nd rfl (Or.inl rfl) (pe_lst pa_nil))
      (pss_cons (ps_set (i := 2) sc_law.nd rfl (Or.inl rfl) (px_call (ok_l_draw T) (hr.mono (by decide)) rfl (gl__law_draw T) (fun σ => paD σ) (pa_cons (pv 0) (pa_cons (pv 1) (pa_cons pe_int pa_nil)))))
      (pss_cons (ps_set (i := 3) sc_law.nd rfl (Or.inl rfl) (px_make (ok_Order_init T) (hr.mono (by decide)) (mk_Order T) rfl (gl_Order T) (fun σ => paD σ) (pa_cons (pv 2) pa_nil)))
      (pss_cons (ps_set (i := 4) sc_law.nd rfl (Or.inl rfl) (px_call (ok_l_order T) (hr.mono (by decide)) rfl (gl__law_order T) (fun σ => paD σ) (pa_cons (pv 2) pa_nil)))
      (pss_cons (ps_dput (hu_of hr) (pv 4) pe_str pe_non rfl)
      (pss_cons (ps_for (passes_of rfl) rfl (pi_range1 rfl (fr_range T) (pa_cons (px_call (ok_l_draw T) (hr.mono (by decide)) rfl (gl__law_draw T) (fun σ => paD σ) (pa_cons (pv 0) (pa_cons (pv 1) (pa_cons pe_int pa_nil)))) pa_nil)) (pg_name (i := 5) sc_law.nd rfl (Or.inl rfl))
       (pss_one (ps_if (PW.pt (pw_or (pt_not (px_truth (px_call (ok_l_call T) (hr.mono (by decide)) rfl (gl__law_call T) (fun σ => paD σ) (pa_cons (pv 0) (pa_cons (pv 1) (pa_cons (pv 3) (pa_cons (pv 4) pa_nil))))) (by intro _; rfl))) (pw_or1 (pt_cmpR (op_neA hr.units) (px_meth0 (ok_Queue_entries T) (hr.mono (by decide)) (pe_fld (pv 3) rfl) (cl_Queue T) (me_Queue_entries T) (fun σ => paD σ)) (pe_dget (hu_of hr) (pv 4) pe_str (fun _ _ => rfl)) (nomark _)))))
         (pss_one (ps_ret pe_bl))
         (pss_nil))))
      (pss_cons (ps_set (i := 6) sc_law.nd rfl (Or.inl rfl) (px_call (ok_l_pick T) (hr.mono (by decide)) rfl (gl__law_pick T) (fun σ => paD σ) (pa_cons (pv 0) (pa_cons (pv 1) (pa_cons (pe_lst (pa_cons pe_str (pa_cons pe_str (pa_cons pe_str pa_nil)))) pa_nil)))))
      (pss_cons (ps_if (pt_cmpR (op_neA hr.units) (px_call (ok_l_told T) (hr.mono (by decide)) rfl (gl__law_told T) (fun σ => paD σ) (pa_cons (pv 3) (pa_cons (pv 6) pa_nil))) (pe_tup (pa_cons pe_str (pa_cons pe_str pa_nil))) (nomark _))
       (pss_one (ps_ret pe_bl))
       (pss_nil))
      (pss_cons (ps_if (pt_cmpR (op_neA hr.units) (px_meth (ok_Order_skip T) (hr.mono (by decide)) (pv 3) (cl_Order T) (me_Order_skip T) (fun σ => paD σ) (pa_cons (pe_dget (hu_of hr) (pv 4) pe_str (fun _ _ => rfl)) pa_nil)) (px_call (ok_l_skip T) (hr.mono (by decide)) rfl (gl__law_skip T) (fun σ => paD σ) (pa_cons (pv 4) (pa_cons (pe_dget (hu_of hr) (pv 4) pe_str (fun _ _ => rfl)) pa_nil))) (nomark _))
       (pss_one (ps_ret pe_bl))
       (pss_nil))
      (pss_one (ps_ret (pe_cmpR (op_eqA hr.units) (pe_lc (own := [("_law_seed", 2)]) (g := gName 2) (by rfl) sc_law.nd (pi_tup (pe_tup (pa_cons (pe_un un_neg pe_int) (pa_cons pe_int pa_nil)))) (blkOk_by (own := [("_law_seed", 2)]) (N := ["_law_script", "_law_town", "_law_seed", "_law_order_here", "_law_own", "_law_k", "_law_bad"]) (sc := defScope s_law) (by decide +kernel)) (fun _ _ _ _ _ => pg_name (i := 2) sc_law.nd rfl (Or.inl rfl)) (fun _ _ _ _ _ => pts_nil) (fun _ _ _ _ _ => px_call (E := (fun _ => E0)) (ok_l_told T) (hr.mono (by decide)) rfl (gl__law_told T) (fun σ => paN σ) (pa_cons pe_non (pa_cons (pv 2) pa_nil)))) (pe_op op_mulA (pe_lst (pa_cons (pe_tup (pa_cons pe_str (pa_cons pe_str pa_nil))) pa_nil)) pe_int) (nomark _)))))))))))), ?_⟩)
  obtain ⟨a, ns, rfl, hS, h1⟩ := h
  walk_at "go"
  rename Addr => t0
  replace hS : Sep (TownA t0 0 :: [ScrA K a ns]) H := hS
  refine draw_use (by decide) (by omega) (hS.own2 a t0) fun sd H hsd hS => ?_
  have hsd' : okSeed (sd : Int) := ⟨by omega, hsd⟩
  walk_at "s"
  refine y_mk hS fun o dx H hS => ?_
  refine ⟨o, dx, sd, _, rfl, hS.own o, fun _ H hS => ?_, fun no => absurd hsd' no⟩
  walk_at "s"
  refine ⟨sd, _, rfl, hS, fun p t n c r H hS => ?_⟩
  walk_at "s"
  replace hS : Sep (pt p (.dK (ownD t n c false "none" r (oV (gO false none)) (oV none))) :: _) H := hS
  have hS : Sep (OwnR p (OS.new sd) none :: OrderR K o (OS.new sd) :: ScrA K a ns :: TownA t0 (0 + 1) :: []) H := Sep.clW' (OS.new sd) none t n c r hS (by
    show En _ (pt p (.dK (ownD t n c false "none" r (oV (gO false none)) (oV none))) :: pt t (.lst []) :: pt n (.lst []) :: pt c (.lst [.int (sd : Int)]) :: pt r (.lst []) :: OrderR K o (OS.new sd) :: ScrA K a ns :: TownA t0 (0 + 1) :: [])
    repeat (first | exact En.refl | exact En.nil | refine En.cons ?_ | refine En.drop ?_))
  refine draw_use (by decide) (by omega) (hS.own2 a t0) fun n1 H hn1 hS => ?_
  refine y_for1 (fun i σ H => ∃ (m : Nat) (S : OS) (w : Option Int) (b5 : Option V), σ = [some (.ref a), some (.ref t0), some (.int (sd : Int)), some (.ref o), some (.ref p), b5, none] ∧ m ≤ 2 + 4 * i ∧ S.Ok ∧ S.q.tunes.length ≤ i ∧ Sep [ScrA K a ns, TownA t0 m, OrderR K o S, OwnR p S w] H)
    (by omega) ⟨0 + 1 + 1, OS.new sd, none, none, rfl, by omega, OS.new_ok hsd', Nat.zero_le _, (hS.of (by repeat (first | exact En.refl | exact En.nil | refine En.cons ?_ | refine En.drop ?_)))⟩ ?_ ?_
  · rintro i σ H hi ⟨m, S, w, b5, rfl, hm, ho, ht, hS⟩
    walk_at "s"
    refine ⟨a, t0, o, p, ns, m, S, w, [], rfl, by omega, ho, by omega, hS, fun m' S' w' H hm' ho' ht' hS => ?_⟩
    walk_at "s"
    obtain ⟨dx, q, c2, k, hS⟩ := (hS.own o).opO
    walk_at "s"
    refine ⟨q, S'.q, _, rfl, hS.own q, fun l2 H hS => ?_⟩
    obtain ⟨t, n, c, r, hS⟩ := (hS.own p).opW
    walk_at "s"
    refine x_neD (dp_ints (ns := S'.q.turn) (sqL hS)) (dp_ints (ns := S'.q.turn) (sqL hS)) (shaped_ints S'.q.turn) (shaped_ints S'.q.turn) ?_
    rw [eqv_of (shaped_ints S'.q.turn)]
    walk_at "s"
    refine ⟨m', S', w', _, rfl, by omega, ho', by omega, ?_⟩
    have hS : Sep (OwnR p S' w' :: pt o (.ins (He.ga K "Order") dx (nmOrder.zip [.ref q, .ref c2, .bl S'.mx, .str S'.ag, .ref k, .bl S'.gone, oV S'.beh])) :: QueueR K q S'.q :: DiceR K c2 S'.d :: pt k (.lst (S'.deck.map V.int)) :: ScrA K a ns :: TownA t0 m' :: []) H := (Sep.clW' S' w' t n c r hS (by repeat (first | exact En.refl | exact En.nil | refine En.cons ?_ | refine En.drop ?_)))
    have hS : Sep (OrderR K o S' :: OwnR p S' w' :: ScrA K a ns :: TownA t0 m' :: []) H := (Sep.clO' (S') dx q c2 k hS (by (try simp only [List.map_nil]); repeat (first | exact En.refl | exact En.nil | refine En.cons ?_ | refine En.drop ?_)))
    exact (hS.of (by repeat (first | exact En.refl | exact En.nil | refine En.cons ?_ | refine En.drop ?_)))
  · rintro σ H ⟨m, S, w, b5, rfl, hm, ho, ht, hS⟩
    walk_at "s"
    refine pick_use (by intro z; cases z) (by omega) (hS.own3 a t0 u) fun v H hv hS => ?_
    obtain ⟨z, rfl, hz⟩ : ∃ z, v = .str z ∧ ¬ okWord z := by
      simp only [List.mem_cons, List.not_mem_nil, or_false] at hv
      rcases hv with rfl | rfl | rfl
      · exact ⟨_, rfl, by decide⟩
      · exact ⟨_, rfl, by decide⟩
      · exact ⟨_, rfl, by decide⟩
    walk_at "s"
    refine .inl ⟨o, z, S, _, rfl, hz, hS.own o, fun v H hS => ?_⟩
    walk_at "s"
    refine x_neD (refD_dp (k := .word) hS) (refD_dp (k := .word) hS) (refD_sh _) (refD_sh _) ?_
    rw [eqv_of (refD_sh _)]
    walk_at "s"
    obtain ⟨t, n, c, r, hS⟩ := (hS.own p).opW
    walk_at "s"
    refine ⟨o, w, S, _, rfl, ho, hS.own o, fun H hS => ?_⟩
    walk_at "s"
    have hS : Sep (OwnR p S w :: []) H := (Sep.clW' (S) w t n c r hS (by (try simp only [List.map_nil]); repeat (first | exact En.refl | exact En.nil | refine En.cons ?_ | refine En.drop ?_)))
    refine ⟨p, w, S, w, _, rfl, ho, hS, fun H hS => ?_⟩
    walk_at "s"
    refine x_neO ?_
    walk_at "s"
    refine x_ndec (fun z => absurd rfl z) (fun _ => ?_)
    walk_at "s"
    refine y_lcT (xs := [.int (-1), .int 6075]) (sqT hS) hS (fun D i H => ∃ us : List Addr, us.length = i ∧ Sep [pt D (.lst (us.map V.ref)), RefsP us, pt u (.tup [.int (-1), .int 6075])] H) (fun D H hS => ⟨[], rfl, ?_⟩) (fun D i H hi ⟨_, _, hS⟩ => sqT hS) ?_ ?_
    · change Sep [pt D (.lst []), RefsP [], pt u (.tup [.int (-1), .int 6075])] H
      exact (Sep.pui (φ := True) trivial hS).of (En.trans (fun H h => Sep.swap (Sep.hd (B := RefsP []) (fun h _ w hw => absurd hw (by simp)) h)) (En.cons (En.cons (En.cons En.nil))))
    · rintro D i x H hi ⟨us, hus, hS⟩
      obtain ⟨z, hz, rfl⟩ : ∃ z : Int, ¬ okSeed z ∧ x = .int z := by
        have hm := List.mem_of_getElem? hi
        simp only [List.mem_cons, List.not_mem_nil, or_false] at hm
        rcases hm with rfl | rfl
        · exact ⟨-1, fun z => absurd z.1 (by decide), rfl⟩
        · exact ⟨6075, fun z => absurd z.2 (by decide), rfl⟩
      have hi2 : i < 2 := (List.getElem?_eq_some_iff.mp hi).1
      walk_at "s"
      refine .inr ⟨z, _, rfl, hz, hS, fun w H hS => ?_⟩
      refine y_el hS (by rw [List.length_map]; omega) fun H hS => ?_
      refine ⟨us ++ [w], by rw [List.length_append, hus] <;> rfl, ?_⟩
      rw [List.map_append]
      have h3 := hS.of (L' := [pt w (.tup [.str "refused", .str Kd.number.txt]), RefsP us, pt D (.lst (us.map V.ref ++ [V.ref w])), pt u (.tup [.int (-1), .int 6075])]) (En.cons (En.cons (En.cons (En.cons En.nil))))
      have h4 := h3.join (C := RefsP (us ++ [w])) fun h1 h2 h s1 s2 a b y hy => by
        rcases List.mem_append.mp hy with hy | hy
        · exact s2 _ _ (b y hy)
        · rw [List.mem_singleton.mp hy]
          exact s1 _ _ a
      exact h4.swap
    · rintro D H ⟨us, hus, hS⟩
      walk_at "s"
      refine x_mulL (n := 2) hS (by decide) (by show 1 * 2 ≤ sizeLine; decide) fun w2 H hS => ?_
      obtain ⟨u1, u2, rfl⟩ : ∃ u1 u2, us = [u1, u2] := match us, hus with
        | [u1, u2], _ => ⟨u1, u2, rfl⟩
      obtain ⟨h, s1, r⟩ := (hS.to (A := RefsP [u1, u2])).part
      have left : Dp K H (.ref D) (.list [refD .number, refD .number]) := .lst (sqL hS) (RefsP.dp s1 r)
      have right : Dp K H (.ref w2) (.list [refD .number, refD .number]) := .lst (sqL hS) (.cons (refD_dp (k := .number) hS) (.cons (refD_dp (k := .number) hS) .nil))
      have sh : SeqAt.shaped (.list [refD .number, refD .number]) = true := by decide +kernel
      walk_at "s"
      refine x_eqD left right sh sh ?_
      rw [eqv_of sh]
      exact h1 _
theorem endF {P : Program} {w : World} {K : PySem.W.Frag} {mg : Str → Option Value} {h : Heap} {f : Addr} (X : K.In h) (G : h.Ns mainGlobals mg) (hfa : mg ("law" : Str) = some (.ref f)) (c : Says fa fn exs K) :
    ∃ fd : FuncData, (∀ (s : Shared) (v : Value), BindsTo s fd ⟨[v], []⟩ [("_law_script", v)]) ∧ ∀ base : Heap, K.In base → base.Ns mainGlobals mg → FnOk P w K mg base CXall 7 f fd ["_law_script"] (sp_law K) := by
  have T : Top K mg := ⟨c, h, X, G⟩
  have e := hfa.symm.trans (gl_law T)
  cases e
  obtain ⟨fd, ⟨_, b⟩, ⟨_, oc, od, osl, lk⟩, F⟩ := ok_law (P := P) (w := w) (base := h) T
  refine ⟨fd, fun s v => b s [v] rfl, fun base _ _ => ?_⟩
  obtain ⟨fd2, _, ⟨_, oc2, od2, osl2, lk2⟩, F2⟩ := ok_law (P := P) (w := w) (base := base) T
  have e := lk.symm.trans lk2
  cases e
  exact fn_all F2
end
end TR
open PySem PySem.W PySem.Calls PyProof.Rows
set_option maxRecDepth 100000 in
set_option maxHeartbeats 0 in
theorem PySem.Challenge.cw_tuneroad_k20_whole_orders_holds : PySem.Challenge.rw_tuneroad_k20_whole_orders.Holds := by
  w_on; o_law
  refine HandSHeadRun.head_any (r := OpenLaw.row PySem.Challenge.rw_tuneroad_k20_whole_orders) (q := TR.qV) (H := TR.hk) (ob := TR.ob) (M := TR.steps) (loose := TR.loose) (d := HandSHeadRun.topDef (OpenLaw.row PySem.Challenge.rw_tuneroad_k20_whole_orders).prog TR.ilaw) (kwd := []) TR.ob_eq
    (by kernel_rfl) (fun s => by kernel_rfl) TR.run (by kernel_rfl) (by kernel_rfl) (by kernel_rfl) (by rfl) (by first | assumption | decide +kernel) (by decide +kernel) ⟨rfl, rfl, rfl, rfl, rfl, by decide +kernel⟩ ?hw ?hc
  case hw => w_witness2
  case hc =>
    refine L2.walk_ofE (l := PySem.Challenge.rw_tuneroad_k20_whole_orders) (n := 63) (k := 7) (x := "_law_script") (CX := TR.CXall) rfl (by decide) (by kernel_rfl) ⟨rfl, by decide, by decide⟩ ?F TR.cxall_no
    intro w mg fa h Y G hmg0
    obtain ⟨K, KX, c⟩ := Y
    have hmg : mg ("law" : PySem.Str) = some (.ref fa) := by
      have e : (HandSHeadRun.topDef (OpenLaw.row PySem.Challenge.rw_tuneroad_k20_whole_orders).prog TR.ilaw).name = ("law" : PySem.Str) := by kernel_rfl
      rw [← e]
      exact hmg0
    obtain ⟨fd, hb, hF⟩ := TR.endF (P := (PySem.Challenge.rw_tuneroad_k20_whole_orders).prog) (w := w) KX G hmg c
    exact ⟨K, fd, TR.sp_law K, KX, hb, fun H a ns hl _ hS => TR.law_start hl hS, hF⟩
#print axioms PySem.Challenge.cw_tuneroad_k20_whole_orders_holds


