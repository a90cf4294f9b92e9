import PyProof.Rows.All
import Wide.All
import OpenK.AllK
import Wide.FinOn
import HandS.ForMost
import HandS.IsInst
import HandS.Zip
import HandS.TupAny
import HandS.Wide
import HandS.Gcd
import HandS.Walk
import KE.DataEq
import HandS.ForExc
import HandS.ExcOwn
import HandS.Style
import HandS.Deep
import HandS.TupMul
import HandS.RaiseMore
import OpenK.KMore
import HandS.EndBits
import HandS.Ends
import PyProof.ReprRoads
import PyProof.ReprLen
import HandS.Dict
import PyProof.StrLawsRepr
import KE.DataFind
import KE.KRevSl
import KE.KDictZip
import PyProof.EnumMake
import HandS.ExcValue
import HandS.More
import HandS.Star
import HandS.ForSpec
import HandS.ExcIs
import KE.KExcIs
import PySem.Challenge.RW_warmtubs_k01_parts_refused
set_option Elab.async false
set_option linter.all false
set_option maxRecDepth 100000
set_option maxHeartbeats 8000000
set_option exponentiation.threshold 10000
section
/-! # The data layer: what a def computes, as a function of plain data -/
namespace DL
open PySem PySem.Spec PyProof.Rows L2

/-- plain data -/
inductive D where
  | non | bl (b : Bool) | int (i : Int) | str (x : Str)
  | tup (ds : List D) | lst (ds : List D) | dct (ks vs : List D)
  /-- a list that is read alone -/
  | rol (ds : List D)
  | pool | fn (x : Str)

mutual
/-- neither lists nor dicts within -/
def D.free : D → Bool
  | .tup ds => D.frees ds
  | .lst _ => false
  | .dct _ _ => false
  | .rol _ => false
  | .pool => false
  | _ => true
def D.frees : List D → Bool
  | [] => true
  | d :: ds => d.free && D.frees ds
end

/-! ### outcomes -/
/-- the content of the one list from which numbers are drawn -/
abbrev Pool := Option (List D)
inductive Out (α : Type) where
  | ok (a : α) (p : Pool)
  | ex (c : Str) (d : Option (Str × D)) (p : Pool)
  | bad
def M (α : Type) := Pool → Out α
def M.ret {α : Type} (a : α) : M α := fun p => .ok a p
def M.thn {α β : Type} (m : M α) (f : α → M β) : M β := fun p => match m p with
  | .ok a p' => f a p'
  | .ex c d p' => .ex c d p'
  | .bad => .bad
instance : Monad M := { pure := M.ret, bind := M.thn }
def M.fail {α : Type} : M α := fun _ => .bad
def liftO {α : Type} (o : Option α) : M α := fun p => match o with
  | some a => .ok a p
  | none => .bad
@[simp] theorem pure_ap {α : Type} (a : α) (p : Pool) : (pure a : M α) p = .ok a p := rfl
theorem bind_ap {α β : Type} (m : M α) (f : α → M β) (p : Pool) : (m >>= f) p = (match m p with
  | .ok a p' => f a p'
  | .ex c d p' => .ex c d p'
  | .bad => .bad) := rfl
@[simp] theorem pure_thn {α β : Type} (a : α) (f : α → M β) : (pure a : M α) >>= f = f a := rfl
@[simp] theorem liftO_some {α : Type} (a : α) : liftO (some a) = (pure a : M α) := rfl
@[simp] theorem liftO_none {α : Type} : liftO (none : Option α) = (M.fail : M α) := rfl
theorem M.thn_assoc {α β γ : Type} (m : M α) (f : α → M β) (h : β → M γ) : (m >>= f) >>= h = m >>= fun a => f a >>= h := by
  funext p
  show (match (match m p with | .ok a p' => f a p' | .ex c d p' => Out.ex c d p' | .bad => .bad) with | .ok a p' => h a p' | .ex c d p' => Out.ex c d p' | .bad => .bad) = _
  rw [bind_ap]
  cases m p <;> rfl
instance : LawfulMonad M := LawfulMonad.mk' M
  (id_map := fun x => by funext p; show (match x p with | .ok a p' => Out.ok a p' | .ex c d p' => Out.ex c d p' | .bad => .bad) = x p; cases x p <;> rfl)
  (pure_bind := fun _ _ => rfl)
  (bind_assoc := fun x f g => M.thn_assoc x f g)

/-- what is wanted of an outcome -/
def Post {α : Type} (o : Out α) (k : α → Pool → Prop) (x : Str → Option (Str × D) → Pool → Prop) : Prop := match o with
  | .ok a p => k a p
  | .ex c d p => x c d p
  | .bad => False
theorem Post.mono {α : Type} {o : Out α} {k k' : α → Pool → Prop} {x x' : Str → Option (Str × D) → Pool → Prop} (h : Post o k x) (f : ∀ a p, k a p → k' a p) (g : ∀ c d p, x c d p → x' c d p) : Post o k' x' := by
  cases o with
  | ok a p => exact f a p h
  | ex c d p => exact g c d p h
  | bad => exact h
theorem Post.thn {α β : Type} {m : M α} {f : α → M β} {p : Pool} {k : β → Pool → Prop} {x : Str → Option (Str × D) → Pool → Prop} (h : Post ((m >>= f) p) k x) : Post (m p) (fun a p' => Post (f a p') k x) x := by
  rw [bind_ap] at h
  cases e : m p with
  | ok a p' => rw [e] at h; exact h
  | ex c d p' => rw [e] at h; exact h
  | bad => rw [e] at h; exact h
theorem Post.lift {α : Type} {o : Option α} {p : Pool} {k : α → Pool → Prop} {x : Str → Option (Str × D) → Pool → Prop} (h : Post (liftO o p) k x) : ∃ a, o = some a ∧ k a p := by
  cases o with
  | none => exact h.elim
  | some a => exact ⟨a, rfl, h⟩

/-! ### what stands for what -/
structure G where
  K : PySem.W.Frag
  mg : Str → Option Value
  a : Option Addr

def TupAt (K : PySem.W.Frag) (L : Addr → Prop) (H : Hp) (q : Addr) (vs : List V) : Prop := (¬ L q ∧ Rd H q (.tup vs)) ∨ SqT K (fun _ => none) q vs
def RolAt (K : PySem.W.Frag) (L : Addr → Prop) (H : Hp) (q : Addr) (vs : List V) : Prop := (¬ L q ∧ Rd H q (.lst vs)) ∨ SqL K (fun _ => none) q vs
def LstAt (L : Addr → Prop) (H : Hp) (q : Addr) (vs : List V) : Prop := ¬ L q ∧ H q = some (.lst vs)
theorem rd_empty {q : Addr} {u : HO} (h : Rd (fun _ => none) q u) : False := by
  rcases h with h | ⟨_, h⟩ <;> cases h
theorem sqT_any {K : PySem.W.Frag} {H : Hp} {q : Addr} {vs : List V} (h : SqT K (fun _ => none) q vs) : SqT K H q vs := by
  rcases h with h | h
  · exact (rd_empty h).elim
  · exact .inr h
theorem sqL_any {K : PySem.W.Frag} {H : Hp} {q : Addr} {vs : List V} (h : SqL K (fun _ => none) q vs) : SqL K H q vs := by
  rcases h with h | h
  · exact (rd_empty h).elim
  · exact .inr h
theorem TupAt.sq {K : PySem.W.Frag} {L : Addr → Prop} {H : Hp} {q : Addr} {vs : List V} (h : TupAt K L H q vs) : SqT K H q vs := by
  rcases h with h | h
  · exact .inl h.2
  · exact sqT_any h
theorem RolAt.sq {K : PySem.W.Frag} {L : Addr → Prop} {H : Hp} {q : Addr} {vs : List V} (h : RolAt K L H q vs) : SqL K H q vs := by
  rcases h with h | h
  · exact .inl h.2
  · exact sqL_any h
theorem LstAt.sq {K : PySem.W.Frag} {L : Addr → Prop} {H : Hp} {q : Addr} {vs : List V} (h : LstAt L H q vs) : SqL K H q vs := .inl (.inl h.2)

mutual
def Rep (g : G) (L : Addr → Prop) (H : Hp) : D → V → Prop
  | .non, v => v = .non
  | .bl b, v => v = .bl b
  | .int i, v => v = .int i
  | .str x, v => v = .str x
  | .tup ds, v => ∃ q vs, v = .ref q ∧ TupAt g.K L H q vs ∧ Reps g L H ds vs
  | .lst ds, v => ∃ q vs, v = .ref q ∧ LstAt L H q vs ∧ Reps g L H ds vs
  | .rol ds, v => ∃ q vs, v = .ref q ∧ RolAt g.K L H q vs ∧ Reps g L H ds vs
  | .dct ks ds, v => ∃ q kvs, v = .ref q ∧ ¬ L q ∧ H q = some (.dK kvs) ∧ Reps g L H ks (kvs.map fun p => kV p.1) ∧ Reps g L H ds (kvs.map (·.2))
  | .pool, v => ∃ q, v = .ref q ∧ g.a = some q
  | .fn x, v => ∃ f, v = .ref f ∧ g.mg x = some (.ref f)
def Reps (g : G) (L : Addr → Prop) (H : Hp) : List D → List V → Prop
  | [], vs => vs = []
  | d :: ds, vs => ∃ v r, vs = v :: r ∧ Rep g L H d v ∧ Reps g L H ds r
end

/-- what is tracked outside L stays -/
def Kp (L : Addr → Prop) (H H' : Hp) : Prop := ∀ q o, H q = some o → ¬ L q → H' q = some o
theorem Kp.refl (L : Addr → Prop) (H : Hp) : Kp L H H := fun _ _ h _ => h
theorem Kp.trans {L : Addr → Prop} {H H1 H2 : Hp} (a : Kp L H H1) (b : Kp L H1 H2) : Kp L H H2 := fun q o h n => b q o (a q o h n) n
theorem Kp.weak {L L' : Addr → Prop} {H H' : Hp} (h : Kp L H H') (s : ∀ q, L q → L' q) : Kp L' H H' := fun q o e n => h q o e fun z => n (s q z)
theorem Kp.same {L : Addr → Prop} {H H' : Hp} (h : Same H H') : Kp L H H' := fun q o e _ => h q o e
theorem Kp.new {L : Addr → Prop} {H : Hp} {p : Addr} {o : HO} (h : H p = none) : Kp L H (upd H p o) := fun q u e _ => by
  rw [upd_ne (ne_of_none e h)]; exact e
theorem same_new {H : Hp} {p : Addr} {o : HO} (h : H p = none) : Same H (upd H p o) := fun q u e => by
  rw [upd_ne (ne_of_none e h)]; exact e
theorem rd_kp {L : Addr → Prop} {H H' : Hp} {q : Addr} {u : HO} (k : Kp L H H') (n : ¬ L q) (h : Rd H q u) : Rd H' q u := by
  rcases h with h | ⟨o, h⟩
  · exact .inl (k q _ h n)
  · exact .inr ⟨o, k q _ h n⟩
theorem rd_there {H : Hp} {q : Addr} {u : HO} (h : Rd H q u) : H q ≠ none := by
  rcases h with h | ⟨o, h⟩ <;> rw [h] <;> exact fun z => nomatch z
section
variable {g : G} {L L' : Addr → Prop} {H H' : Hp}
theorem TupAt.mono {K : PySem.W.Frag} {q : Addr} {vs : List V} (k : Kp L H H') (hl : ∀ q, L' q → L q ∨ H q = none) (h : TupAt K L H q vs) : TupAt K L' H' q vs := by
  rcases h with ⟨n, r⟩ | h
  · exact .inl ⟨fun z => (hl q z).elim n (rd_there r), rd_kp k n r⟩
  · exact .inr h
theorem RolAt.mono {K : PySem.W.Frag} {q : Addr} {vs : List V} (k : Kp L H H') (hl : ∀ q, L' q → L q ∨ H q = none) (h : RolAt K L H q vs) : RolAt K L' H' q vs := by
  rcases h with ⟨n, r⟩ | h
  · exact .inl ⟨fun z => (hl q z).elim n (rd_there r), rd_kp k n r⟩
  · exact .inr h
theorem LstAt.mono {q : Addr} {vs : List V} (k : Kp L H H') (hl : ∀ q, L' q → L q ∨ H q = none) (h : LstAt L H q vs) : LstAt L' H' q vs :=
  ⟨fun z => (hl q z).elim h.1 fun y => by rw [h.2] at y; exact (nomatch y), k q _ h.2 h.1⟩
mutual
theorem Rep.mono (k : Kp L H H') (hl : ∀ q, L' q → L q ∨ H q = none) : ∀ (d : D) (v : V), Rep g L H d v → Rep g L' H' d v
  | .non, _, h => by unfold Rep at h ⊢; exact h
  | .bl _, _, h => by unfold Rep at h ⊢; exact h
  | .int _, _, h => by unfold Rep at h ⊢; exact h
  | .str _, _, h => by unfold Rep at h ⊢; exact h
  | .tup ds, _, h => by
    unfold Rep at h ⊢
    obtain ⟨q, vs, e, t, r⟩ := h
    exact ⟨q, vs, e, t.mono k hl, Reps.mono k hl ds vs r⟩
  | .lst ds, _, h => by
    unfold Rep at h ⊢
    obtain ⟨q, vs, e, t, r⟩ := h
    exact ⟨q, vs, e, t.mono k hl, Reps.mono k hl ds vs r⟩
  | .dct ks ds, _, h => by
    unfold Rep at h ⊢
    obtain ⟨q, kvs, e, n, t, r1, r2⟩ := h
    exact ⟨q, kvs, e, fun z => (hl q z).elim n fun y => by rw [t] at y; exact (nomatch y), k q _ t n, Reps.mono k hl ks _ r1, Reps.mono k hl ds _ r2⟩
  | .rol ds, _, h => by
    unfold Rep at h ⊢
    obtain ⟨q, vs, e, t, r⟩ := h
    exact ⟨q, vs, e, t.mono k hl, Reps.mono k hl ds vs r⟩
  | .pool, _, h => by unfold Rep at h ⊢; exact h
  | .fn _, _, h => by unfold Rep at h ⊢; exact h
theorem Reps.mono (k : Kp L H H') (hl : ∀ q, L' q → L q ∨ H q = none) : ∀ (ds : List D) (vs : List V), Reps g L H ds vs → Reps g L' H' ds vs
  | [], _, h => by unfold Reps at h ⊢; exact h
  | d :: ds, _, h => by
    unfold Reps at h ⊢
    obtain ⟨v, r, e, h1, h2⟩ := h
    exact ⟨v, r, e, Rep.mono k hl d v h1, Reps.mono k hl ds r h2⟩
end
mutual
/-- data without lists lean on no list: L' may be any set of lists and dicts -/
theorem Rep.freed (hl : ∀ q, L' q → L q ∨ ∀ vs, ¬ Rd H q (.tup vs)) : ∀ (d : D) (v : V), d.free = true → Rep g L H d v → Rep g L' H d v
  | .non, _, _, h => by unfold Rep at h ⊢; exact h
  | .bl _, _, _, h => by unfold Rep at h ⊢; exact h
  | .int _, _, _, h => by unfold Rep at h ⊢; exact h
  | .str _, _, _, h => by unfold Rep at h ⊢; exact h
  | .tup ds, _, f, h => by
    unfold Rep at h ⊢
    unfold D.free at f
    obtain ⟨q, vs, e, t, r⟩ := h
    refine ⟨q, vs, e, ?_, Reps.freed hl ds vs f r⟩
    rcases t with ⟨n, t⟩ | t
    · exact .inl ⟨fun z => (hl q z).elim n fun y => y vs t, t⟩
    · exact .inr t
  | .lst ds, _, f, h => by unfold D.free at f; cases f
  | .dct ks ds, _, f, h => by unfold D.free at f; cases f
  | .rol ds, _, f, h => by unfold D.free at f; cases f
  | .pool, _, f, h => by unfold D.free at f; cases f
  | .fn _, _, _, h => by unfold Rep at h ⊢; exact h
theorem Reps.freed (hl : ∀ q, L' q → L q ∨ ∀ vs, ¬ Rd H q (.tup vs)) : ∀ (ds : List D) (vs : List V), D.frees ds = true → Reps g L H ds vs → Reps g L' H ds vs
  | [], _, _, h => by unfold Reps at h ⊢; exact h
  | d :: ds, _, f, h => by
    unfold Reps at h ⊢
    unfold D.frees at f
    rw [Bool.and_eq_true] at f
    obtain ⟨v, r, e, h1, h2⟩ := h
    exact ⟨v, r, e, Rep.freed hl d v f.1 h1, Reps.freed hl ds r f.2 h2⟩
end
theorem Reps.length : ∀ {ds : List D} {vs : List V}, Reps g L H ds vs → vs.length = ds.length
  | [], _, h => by unfold Reps at h; rw [h]; rfl
  | d :: ds, _, h => by
    unfold Reps at h
    obtain ⟨v, r, e, _, h2⟩ := h
    rw [e, List.length_cons, List.length_cons, Reps.length h2]
theorem Reps.get : ∀ {ds : List D} {vs : List V} {i : Nat} {d : D}, Reps g L H ds vs → ds[i]? = some d → ∃ v, vs[i]? = some v ∧ Rep g L H d v
  | [], _, _, _, _, e => by simp at e
  | d :: ds, _, 0, d', h, e => by
    unfold Reps at h
    obtain ⟨v, r, rfl, h1, _⟩ := h
    simp at e
    subst e
    exact ⟨v, rfl, h1⟩
  | d :: ds, _, i + 1, d', h, e => by
    unfold Reps at h
    obtain ⟨v, r, rfl, _, h2⟩ := h
    obtain ⟨w, e1, e2⟩ := Reps.get (i := i) (d := d') h2 (by simpa using e)
    exact ⟨w, by simpa using e1, e2⟩
theorem Reps.nil : Reps g L H [] [] := by unfold Reps; rfl
theorem Reps.cons {d : D} {ds : List D} {v : V} {vs : List V} (h : Rep g L H d v) (r : Reps g L H ds vs) : Reps g L H (d :: ds) (v :: vs) := by
  unfold Reps
  exact ⟨v, vs, rfl, h, r⟩
theorem Reps.append : ∀ {ds es : List D} {vs ws : List V}, Reps g L H ds vs → Reps g L H es ws → Reps g L H (ds ++ es) (vs ++ ws)
  | [], _, _, _, h, h2 => by unfold Reps at h; subst h; exact h2
  | d :: ds, _, _, _, h, h2 => by
    unfold Reps at h
    obtain ⟨v, r, rfl, h1, h3⟩ := h
    exact Reps.cons h1 (Reps.append h3 h2)
theorem Reps.take : ∀ (n : Nat) {ds : List D} {vs : List V}, Reps g L H ds vs → Reps g L H (ds.take n) (vs.take n)
  | 0, _, _, _ => by rw [List.take_zero, List.take_zero]; exact Reps.nil
  | n + 1, [], _, h => by unfold Reps at h; subst h; exact Reps.nil
  | n + 1, d :: ds, _, h => by
    unfold Reps at h
    obtain ⟨v, r, rfl, h1, h3⟩ := h
    exact Reps.cons h1 (Reps.take n h3)
theorem Reps.drop : ∀ (n : Nat) {ds : List D} {vs : List V}, Reps g L H ds vs → Reps g L H (ds.drop n) (vs.drop n)
  | 0, _, _, h => h
  | n + 1, [], _, h => by unfold Reps at h; subst h; exact Reps.nil
  | n + 1, d :: ds, _, h => by
    unfold Reps at h
    obtain ⟨v, r, rfl, h1, h3⟩ := h
    exact Reps.drop n h3
theorem Reps.reverse : ∀ {ds : List D} {vs : List V}, Reps g L H ds vs → Reps g L H ds.reverse vs.reverse
  | [], _, h => by unfold Reps at h; subst h; exact Reps.nil
  | d :: ds, _, h => by
    unfold Reps at h
    obtain ⟨v, r, rfl, h1, h3⟩ := h
    rw [List.reverse_cons, List.reverse_cons]
    exact Reps.append (Reps.reverse h3) (Reps.cons h1 Reps.nil)
theorem Reps.set {d : D} {v : V} (hv : Rep g L H d v) : ∀ (n : Nat) {ds : List D} {vs : List V}, Reps g L H ds vs → Reps g L H (ds.set n d) (vs.set n v)
  | _, [], _, h => by unfold Reps at h; subst h; exact Reps.nil
  | 0, e :: ds, _, h => by
    unfold Reps at h
    obtain ⟨w, r, rfl, h1, h3⟩ := h
    exact Reps.cons hv h3
  | n + 1, e :: ds, _, h => by
    unfold Reps at h
    obtain ⟨w, r, rfl, h1, h3⟩ := h
    exact Reps.cons h1 (Reps.set hv n h3)
end
end DL

end
section
namespace DL
open PySem PySem.Spec L2

abbrev DEnv := List (Option D)
/-- what stays fixed through a def's body: what stands for what, what may not be leaned on, the heap at the entry -/
structure FP (K : PySem.W.Frag) (mg : Str → Option Value) where
  a : Option Addr
  F : Addr → Prop
  H0 : Hp
section
variable {K : PySem.W.Frag} {mg : Str → Option Value}
def FP.g (P : FP K mg) : G := ⟨K, mg, P.a⟩
def AA (P : FP K mg) : Addr → Prop := fun q => P.g.a = some q
def L0 (P : FP K mg) : Addr → Prop := fun q => P.F q ∨ P.g.a = some q
def LL (P : FP K mg) (own : List Nat) (σ : St) : Addr → Prop := fun q => P.F q ∨ P.g.a = some q ∨ ∃ i, i ∈ own ∧ σ[i]? = some (some (.ref q))
theorem LL.nil {P : FP K mg} {σ : St} {q : Addr} : LL P [] σ q ↔ L0 P q := by
  unfold LL L0
  constructor
  · rintro (h | h | ⟨i, h, _⟩)
    · exact .inl h
    · exact .inr h
    · cases h
  · rintro (h | h)
    · exact .inl h
    · exact .inr (.inl h)
abbrev IPool := Option (List Int)
def PoolOk (g : G) (H : Hp) (p : Pool) : Prop := match g.a, p with
  | none, none => True
  | some q, some ds => ∃ is : List Int, ds = is.map D.int ∧ H q = some (.lst (is.map V.int))
  | _, _ => False
/-- an owned list or dict -/
def OwnRep (P : FP K mg) (L : Addr → Prop) (H : Hp) (q : Addr) : D → Prop
  | .lst ds => ∃ vs, H q = some (.lst vs) ∧ Reps P.g L H ds vs
  | .dct ks ds => ∃ kvs, H q = some (.dK kvs) ∧ Reps P.g L H ks (kvs.map fun p => kV p.1) ∧ Reps P.g L H ds (kvs.map (·.2))
  | _ => False
def Mutb (H : Hp) (q : Addr) : Prop := (∃ vs, H q = some (.lst vs)) ∨ (∃ kvs, H q = some (.dK kvs)) ∨ ∃ kvs, H q = some (.dT kvs)
structure SRel (P : FP K mg) (own : List Nat) (σ : St) (H : Hp) (ε : DEnv) (p : Pool) : Prop where
  len : ε.length = σ.length
  slots : ∀ i d, i ∉ own → ε[i]? = some (some d) → ∃ v, σ[i]? = some (some v) ∧ Rep P.g (LL P own σ) H d v
  owned : ∀ i d, i ∈ own → ε[i]? = some (some d) → ∃ q, σ[i]? = some (some (.ref q)) ∧ OwnRep P (LL P own σ) H q d
  ownst : ∀ i, i ∈ own → ∀ v, σ[i]? = some (some v) → ∃ q, v = .ref q ∧ P.H0 q = none ∧ Mutb H q
  ownne : ∀ i j q, i ∈ own → j ∈ own → σ[i]? = some (some (.ref q)) → σ[j]? = some (some (.ref q)) → i = j
  pool : PoolOk P.g H p
  keep : Kp (AA P) P.H0 H
  there : ∀ q, L0 P q → H q ≠ none
  apart : ∀ q, P.F q → ¬ AA P q
  apartA : ∀ q, AA P q → P.H0 q ≠ none
  ownF : ∀ i, i ∈ own → ∀ q, σ[i]? = some (some (.ref q)) → ¬ P.F q

theorem PoolOk.kp {g : G} {H H' : Hp} {p : Pool} (h : PoolOk g H p) (s : Same H H') : PoolOk g H' p := by
  unfold PoolOk at h ⊢
  split at h
  · trivial
  · obtain ⟨is, e, h⟩ := h
    exact ⟨is, e, s _ _ h⟩
  · exact h.elim
theorem PoolOk.there {g : G} {H : Hp} {p : Pool} {q : Addr} (h : PoolOk g H p) (e : g.a = some q) : H q ≠ none := by
  unfold PoolOk at h
  rw [e] at h
  cases p with
  | none => exact h.elim
  | some ds =>
    obtain ⟨is, _, h⟩ := h
    rw [h]
    exact fun z => nomatch z
theorem PoolOk.tup {g : G} {H : Hp} {p : Pool} {q : Addr} {vs : List V} (h : PoolOk g H p) (e : g.a = some q) : ¬ Rd H q (.tup vs) := by
  unfold PoolOk at h
  rw [e] at h
  cases p with
  | none => exact h.elim
  | some ds =>
    obtain ⟨is, _, h⟩ := h
    rintro (z | ⟨o, z⟩) <;> rw [h] at z <;> cases z
section
variable {P : FP K mg} {own : List Nat} {σ : St} {H H' : Hp} {ε : DEnv} {p p' : Pool}
theorem AA.LL {q : Addr} (h : AA P q) : LL P own σ q := .inr (.inl h)
theorem L0.LL {q : Addr} (h : L0 P q) : LL P own σ q := h.elim .inl fun h => .inr (.inl h)
theorem SRel.tr (r : SRel P own σ H ε p) {q : Addr} (h : LL P own σ q) : H q ≠ none := by
  rcases h with h | h | ⟨i, hi, h⟩
  · exact r.there q (.inl h)
  · exact r.there q (.inr h)
  · obtain ⟨q', e, _, m⟩ := r.ownst i hi _ h
    cases e
    rcases m with ⟨_, m⟩ | ⟨_, m⟩ | ⟨_, m⟩ <;> rw [m] <;> exact fun z => nomatch z
theorem Mutb.kp (m : Mutb H q) (k : H' q = H q) : Mutb H' q := by
  unfold Mutb
  rw [k]
  exact m
theorem OwnRep.mono {L L' : Addr → Prop} {q : Addr} {d : D} (k : Kp L H H') (hl : ∀ q, L' q → L q ∨ H q = none) (hq : H' q = H q) (h : OwnRep P L H q d) : OwnRep P L' H' q d := by
  cases d with
  | lst ds =>
    obtain ⟨vs, e, r⟩ := h
    exact ⟨vs, by rw [hq]; exact e, Reps.mono k hl ds vs r⟩
  | dct ks ds =>
    obtain ⟨kvs, e, r1, r2⟩ := h
    exact ⟨kvs, by rw [hq]; exact e, Reps.mono k hl ks _ r1, Reps.mono k hl ds _ r2⟩
  | _ => exact h
/-- the own lists are not the pool -/
theorem SRel.notA (r : SRel P own σ H ε p) {i : Nat} (hi : i ∈ own) {q : Addr} (e : σ[i]? = some (some (.ref q))) (hA : ∀ q, AA P q → P.H0 q ≠ none) : ¬ AA P q := fun z => by
  obtain ⟨q', e', n, _⟩ := r.ownst i hi _ e
  cases e'
  exact hA q z n
end
end
end DL

end
section
namespace DL
open PySem PySem.Spec L2

/-- an exception as told: its class's name, the one thing that it keeps -/
def ExR {K : PySem.W.Frag} {mg : Str → Option Value} (P : FP K mg) (L : Addr → Prop) (H : Hp) (c : Str) (d : Option (Str × D)) (cv : Value) (dx : Option Addr) : Prop :=
  ∃ C, mg c = some (.ref C) ∧ cv = .ref C ∧ match d with
    | none => dx = none
    | some d' => ∃ x v, dx = some x ∧ H x = some (.xd [(d'.1, v)]) ∧ Rep P.g L H d'.2 v
section
variable {K : PySem.W.Frag} {mg : Str → Option Value}
/-- behind an expression -/
def EK (P : FP K mg) (H : Hp) (Q : VK) : D → Pool → Prop := fun d p' => ∀ v H', Kp (AA P) H H' → PoolOk P.g H' p' → Rep P.g (L0 P) H' d v → Q v H'
def AK (P : FP K mg) (H : Hp) (Q : List V → Hp → Prop) : List D → Pool → Prop := fun ds p' => ∀ vs H', Kp (AA P) H H' → PoolOk P.g H' p' → Reps P.g (L0 P) H' ds vs → Q vs H'
def BK (P : FP K mg) (H : Hp) (Q : Bool → Hp → Prop) : Bool → Pool → Prop := fun b p' => ∀ H', Kp (AA P) H H' → PoolOk P.g H' p' → Q b H'
/-- behind an exception -/
def XKx (P : FP K mg) (σ : St) (H : Hp) (W : WX) : Str → Option (Str × D) → Pool → Prop := fun c d p' => ∀ cv dx H', Kp (AA P) H H' → PoolOk P.g H' p' → ExR P (L0 P) H' c d cv dx → W cv dx σ H'
variable {P : FP K mg} {own : List Nat} {σ : St} {H H1 H' : Hp} {ε : DEnv} {p p' : Pool} {W : WX}
theorem EK.shift {Q : VK} {d : D} (k : Kp (AA P) H H1) (h : EK P H Q d p) : EK P H1 Q d p := fun v H' k' => h v H' (k.trans k')
theorem AK.shift {Q : List V → Hp → Prop} {d : List D} (k : Kp (AA P) H H1) (h : AK P H Q d p) : AK P H1 Q d p := fun v H' k' => h v H' (k.trans k')
theorem BK.shift {Q : Bool → Hp → Prop} {d : Bool} (k : Kp (AA P) H H1) (h : BK P H Q d p) : BK P H1 Q d p := fun H' k' => h H' (k.trans k')
theorem XKx.shift {c : Str} {d : Option (Str × D)} (k : Kp (AA P) H H1) (h : XKx P σ H W c d p) : XKx P σ H1 W c d p := fun v dx H' k' => h v dx H' (k.trans k')

/-- the state goes on: what is tracked stays but the pool -/
theorem SRel.step (r : SRel P own σ H ε p) (k : Kp (AA P) H H') (po : PoolOk P.g H' p') : SRel P own σ H' ε p' := by
  have kl : Kp (LL P own σ) H H' := k.weak fun q h => h.LL
  have same : ∀ i, i ∈ own → ∀ q, σ[i]? = some (some (.ref q)) → H' q = H q ∨ AA P q := fun i hi q e => by
    obtain ⟨q', e', _, m⟩ := r.ownst i hi _ e
    cases e'
    by_cases ha : AA P q
    · exact .inr ha
    · left
      rcases m with ⟨_, m⟩ | ⟨_, m⟩ | ⟨_, m⟩ <;> rw [m] <;> exact k q _ m ha
  have nA : ∀ i, i ∈ own → ∀ q, σ[i]? = some (some (.ref q)) → ¬ AA P q := fun i hi q e z => by
    obtain ⟨q', e', n, m⟩ := r.ownst i hi _ e
    cases e'
    exact r.apartA q z n
  have same' : ∀ i, i ∈ own → ∀ q, σ[i]? = some (some (.ref q)) → H' q = H q := fun i hi q e => (same i hi q e).elim id fun z => (nA i hi q e z).elim
  refine ⟨r.len, fun i d hi e => ?_, fun i d hi e => ?_, fun i hi v e => ?_, r.ownne, po, r.keep.trans k, fun q hq => ?_, r.apart, r.apartA, r.ownF⟩
  · obtain ⟨v, e1, h⟩ := r.slots i d hi e
    exact ⟨v, e1, Rep.mono kl (fun _ h => .inl h) d v h⟩
  · obtain ⟨q, e1, h⟩ := r.owned i d hi e
    exact ⟨q, e1, OwnRep.mono kl (fun _ h => .inl h) (same' i hi q e1) h⟩
  · obtain ⟨q, e1, n, m⟩ := r.ownst i hi v e
    exact ⟨q, e1, n, m.kp (same' i hi q (by rw [e, e1]))⟩
  · by_cases ha : AA P q
    · exact po.there ha
    · obtain ⟨o, e⟩ := Option.ne_none_iff_exists'.mp (r.there q hq)
      rw [k q o e ha]
      exact fun z => nomatch z
theorem SRel.stepS (r : SRel P own σ H ε p) (s : Same H H') : SRel P own σ H' ε p := r.step (Kp.same s) (r.pool.kp s)
end

/-! ### readings by functions of data -/
section
variable {K : PySem.W.Frag} {mg : Str → Option Value}
def tD (K : PySem.W.Frag) (mg : Str → Option Value) (W : WX) (own : List Nat) (f : DEnv → M D) : TE := fun σ H Q => ∃ (P : FP K mg) (ε : DEnv) (p : Pool), SRel P own σ H ε p ∧ Post (f ε p) (EK P H Q) (XKx P σ H W)
def tDA (K : PySem.W.Frag) (mg : Str → Option Value) (W : WX) (own : List Nat) (f : DEnv → M (List D)) : TA := fun σ H Q => ∃ (P : FP K mg) (ε : DEnv) (p : Pool), SRel P own σ H ε p ∧ Post (f ε p) (AK P H Q) (XKx P σ H W)
def tDT (K : PySem.W.Frag) (mg : Str → Option Value) (W : WX) (own : List Nat) (f : DEnv → M Bool) : TT := fun σ H Q => ∃ (P : FP K mg) (ε : DEnv) (p : Pool), SRel P own σ H ε p ∧ Post (f ε p) (BK P H Q) (XKx P σ H W)
variable {X : Cx} {W : WX} {own : List Nat} {e a b c : Expr} {es rest : List Expr} {pos : Pos} {f g h : DEnv → M D}
abbrev PD (X : Cx) (W : WX) (own : List Nat) (e : Expr) (f : DEnv → M D) : Prop := PE X e (tD X.K X.mg W own f)
abbrev PDA (X : Cx) (W : WX) (own : List Nat) (e : List Expr) (f : DEnv → M (List D)) : Prop := PA X e (tDA X.K X.mg W own f)
abbrev PDT (X : Cx) (W : WX) (own : List Nat) (e : Expr) (f : DEnv → M Bool) : Prop := PT X e (tDT X.K X.mg W own f)
abbrev PDW (X : Cx) (W : WX) (own : List Nat) (e : Expr) (f : DEnv → M Bool) : Prop := PW X e (tDT X.K X.mg W own f)
theorem _root_.L2.PE.imp {t u : TE} (h : PE X e t) (i : ∀ σ H Q, u σ H Q → t σ H Q) : PE X e u := ⟨fun pins s σ H Q I q => h.run pins s σ H Q I (i σ H Q q)⟩
theorem _root_.L2.PA.imp {t u : TA} (h : PA X es t) (i : ∀ σ H Q, u σ H Q → t σ H Q) : PA X es u := ⟨fun pos pins s σ H Q I q => h.run pos pins s σ H Q I (i σ H Q q)⟩
theorem _root_.L2.PT.imp {t u : TT} (h : PT X e t) (i : ∀ σ H Q, u σ H Q → t σ H Q) : PT X e u := ⟨fun pins s σ H Q I q => h.run pins s σ H Q I (i σ H Q q)⟩
theorem _root_.L2.PW.imp {t u : TT} (h : PW X e t) (i : ∀ σ H Q, u σ H Q → t σ H Q) : PW X e u := ⟨fun wh pins s σ H Q I q => h.run wh pins s σ H Q I (i σ H Q q)⟩
theorem _root_.L2.PS.imp {st : Stmt} {t u : TS} (h : PS X st t) (i : ∀ D σ H, u D σ H → t D σ H) : PS X st u := ⟨fun pins s σ H D I q => h.run pins s σ H D I (i D σ H q)⟩
theorem _root_.L2.PSs.imp {st : List Stmt} {t u : TS} (h : PSs X st t) (i : ∀ D σ H, u D σ H → t D σ H) : PSs X st u := ⟨fun pins s σ H D I q => h.run pins s σ H D I (i D σ H q)⟩

/-- one expression, then more -/
theorem tD.seq {f : DEnv → M D} {k : D → DEnv → M α} {σ : St} {H : Hp} {P : FP K mg} {ε : DEnv} {p : Pool} {R : α → Pool → Prop} {T : VK}
    (r : SRel P own σ H ε p) (h : Post ((f ε >>= fun x => k x ε) p) R (XKx P σ H W))
    (n : ∀ x v H1 p1, Kp (AA P) H H1 → SRel P own σ H1 ε p1 → Rep P.g (L0 P) H1 x v → Post (k x ε p1) R (XKx P σ H1 W) → T v H1) : tD K mg W own f σ H T :=
  ⟨P, ε, p, r, (Post.thn h).mono (fun x p1 hp v H1 k1 po rv => n x v H1 p1 k1 (r.step k1 po) rv (hp.mono (fun _ _ z => z) fun _ _ _ z => z.shift k1)) fun _ _ _ z => z⟩

/-! ### names, constants -/
def dVar (i : Nat) (ε : DEnv) : M D := liftO (ε[i]?.bind id)
theorem SRel.read {K : PySem.W.Frag} {mg : Str → Option Value} {P : FP K mg} {σ : St} {H : Hp} {ε : DEnv} {p : Pool} (r : SRel P own σ H ε p) {i : Nat} {d : D} (e : ε[i]? = some (some d)) : ∃ v, σ[i]? = some (some v) ∧ Rep P.g (L0 P) H d v := by
  by_cases ho : i ∈ own
  · obtain ⟨q, e1, h⟩ := r.owned i d ho e
    have nA : ¬ L0 P q := fun z => z.elim (r.ownF i ho q e1) fun z => by
      obtain ⟨q', e', n, _⟩ := r.ownst i ho _ e1
      cases e'
      exact r.apartA q z n
    refine ⟨.ref q, e1, ?_⟩
    cases d <;> simp only [OwnRep] at h
    · obtain ⟨vs, e2, h⟩ := h
      unfold Rep
      exact ⟨q, vs, rfl, ⟨nA, e2⟩, Reps.mono (Kp.refl _ _) (fun _ z => .inl z.LL) _ vs h⟩
    · obtain ⟨kvs, e2, h1, h2⟩ := h
      unfold Rep
      exact ⟨q, kvs, rfl, nA, e2, Reps.mono (Kp.refl _ _) (fun _ z => .inl z.LL) _ _ h1, Reps.mono (Kp.refl _ _) (fun _ z => .inl z.LL) _ _ h2⟩
  · obtain ⟨v, e1, rv⟩ := r.slots i d ho e
    exact ⟨v, e1, Rep.mono (Kp.refl _ _) (fun _ z => .inl z.LL) d v rv⟩
theorem pd_var {i : Nat} {x : Str} (hN : X.N[i]? = some x) (hv : Vis X.env.scope x) (hd : (x == ("__debug__" : Str)) = false := by decide) (hcd : (x == ("__classdict__" : Str)) = false := by decide) :
    PD X W own (.Name x pos) (dVar i) := (pe_var hN hv hd hcd).imp fun σ H Q ⟨P, ε, p, r, q⟩ => by
  obtain ⟨d, e, q⟩ := Post.lift q
  have e' : ε[i]? = some (some d) := by
    cases z : ε[i]? with
    | none => rw [z] at e; cases e
    | some o => rw [z] at e; cases o with
      | none => cases e
      | some d' => cases e; rfl
  obtain ⟨v, e1, rv⟩ := r.read e'
  exact ⟨v, e1, q v H (Kp.refl _ _) r.pool rv⟩
def dC (d : D) (_ : DEnv) : M D := pure d
theorem tC_of {d : D} {v : V} (hr : ∀ (g : G) (L : Addr → Prop) (H : Hp), g.K = K → g.mg = mg → Rep g L H d v) {σ : St} {H : Hp} {Q : VK} (q : tD K mg W own (dC d) σ H Q) : tC v σ H Q := by
  obtain ⟨P, ε, p, r, q⟩ := q
  exact q v H (Kp.refl _ _) r.pool (hr _ _ _ rfl rfl)
theorem pd_int {i j} : PD X W own (.Constant (.int i) j pos) (dC (.int i)) := pe_int.imp fun _ _ _ q => tC_of (fun _ _ _ _ _ => by unfold Rep; rfl) q
theorem pd_bl {i j} : PD X W own (.Constant (.bool i) j pos) (dC (.bl i)) := pe_bl.imp fun _ _ _ q => tC_of (fun _ _ _ _ _ => by unfold Rep; rfl) q
theorem pd_non {j} : PD X W own (.Constant .none j pos) (dC .non) := pe_non.imp fun _ _ _ q => tC_of (fun _ _ _ _ _ => by unfold Rep; rfl) q
theorem pd_str {i j} : PD X W own (.Constant (.str i) j pos) (dC (.str i)) := pe_str.imp fun _ _ _ q => tC_of (fun _ _ _ _ _ => by unfold Rep; rfl) q
/-- a constant of the module, a def as a value -/
theorem pd_glob {x : Str} {d : D} {v : V} {u : Value} (hg : Gl X x) (hm : X.mg x = some u) (rv : RelV v u) (hr : ∀ (g : G) (L : Addr → Prop) (H : Hp), g.K = X.K → g.mg = X.mg → Rep g L H d v) (hd : (x == ("__debug__" : Str)) = false := by decide) :
    PD X W own (.Name x pos) (dC d) := (pe_glob hg hm rv hd).imp fun _ _ _ q => tC_of hr q

/-! ### operators -/
/-- a rule by values, by a function of data -/
def Op2 (K : PySem.W.Frag) (mg : Str → Option Value) (r : R2) (op : D → D → Option D) : Prop := ∀ (a : Option Addr) (L : Addr → Prop) (H : Hp) (x y d : D) (vx vy : V) (Q : VK), (∀ q, L q → H q ≠ none) → Rep ⟨K, mg, a⟩ L H x vx → Rep ⟨K, mg, a⟩ L H y vy →
  op x y = some d → (∀ v H', Same H H' → Rep ⟨K, mg, a⟩ L H' d v → Q v H') → r vx vy H Q
def d2 (op : D → D → Option D) (f g : DEnv → M D) (ε : DEnv) : M D := f ε >>= fun x => g ε >>= fun y => liftO (op x y)
theorem tD.op2 {r : R2} {op : D → D → Option D} (hr : Op2 K mg r op) {σ : St} {H : Hp} {Q : VK} (q : tD K mg W own (d2 op f g) σ H Q) : tOp r (tD K mg W own f) (tD K mg W own g) σ H Q := by
  obtain ⟨P, ε, p, rel, q⟩ := q
  refine tD.seq (k := fun x ε => g ε >>= fun y => liftO (op x y)) rel q fun x vx H1 p1 k1 r1 rx q1 => ?_
  refine tD.seq (k := fun y ε => liftO (op x y)) r1 q1 fun y vy H2 p2 k2 r2 ry q2 => ?_
  obtain ⟨d, e, q2⟩ := Post.lift q2
  refine hr P.a (L0 P) H2 x y d vx vy Q r2.there (Rep.mono (k2.weak fun q h => .inr h) (fun _ h => .inl h) x vx rx) ry e fun v H' s rv => ?_
  exact q2 v H' ((k1.trans k2).trans (Kp.same s)) (r2.pool.kp s) rv
theorem pd_op {op : Operator} {r : R2} {o : D → D → Option D} (ho : OpR X (binaryOp op) r) (hr : Op2 X.K X.mg r o) (ha : PD X W own a f) (hb : PD X W own b g) : PD X W own (.BinOp a op b pos) (d2 o f g) := (pe_op ho ha hb).imp fun _ _ _ q => tD.op2 hr q
theorem pd_cmp {op : CmpOp} {r : R2} {o : D → D → Option D} (ho : OpR X (compareOp op) r) (hr : Op2 X.K X.mg r o) (ha : PD X W own a f) (hb : PD X W own b g) (hm : behindInMarks op b = false) : PD X W own (.Compare a [op] [b] pos) (d2 o f g) :=
  (pe_cmpR ho ha hb hm).imp fun _ _ _ q => tD.op2 hr q
def asB : D → Option Bool
  | .bl b => some b
  | _ => none
def dB (f : DEnv → M D) (ε : DEnv) : M Bool := f ε >>= fun x => liftO (asB x)
theorem asB_some {x : D} {c : Bool} (h : asB x = some c) : x = .bl c := by
  cases x <;> simp only [asB] at h <;> cases h
  rfl
theorem pdt_val (ha : PD X W own a f) (he : ∀ whole, isTrue a X.env whole = (do let v ← whole; standAt a.pos; holding [v] (truthy v)) := by intro _; rfl) : PDT X W own a (dB f) := (pt_val ha he).imp fun σ H Q ⟨P, ε, p, rel, q⟩ => by
  refine tD.seq (k := fun x _ => liftO (asB x)) rel q fun x vx H1 p1 k1 r1 rx q1 => ?_
  obtain ⟨c, e, q1⟩ := Post.lift q1
  obtain rfl := asB_some e
  unfold Rep at rx
  exact ⟨c, rx, q1 H1 k1 r1.pool⟩
theorem pdt_cmp {op : CmpOp} {r : R2} {o : D → D → Option D} (ho : OpR X (compareOp op) r) (hr : Op2 X.K X.mg r o) (ha : PD X W own a f) (hb : PD X W own b g) (hm : behindInMarks op b = false) : PDT X W own (.Compare a [op] [b] pos) (dB (d2 o f g)) :=
  (pt_cmpR ho ha hb hm).imp fun σ H Q ⟨P, ε, p, rel, q⟩ => by
  refine tD.op2 (f := f) (g := g) (op := o) hr ⟨P, ε, p, rel, ?_⟩
  refine (Post.thn q).mono (fun x p1 q1 v H1 k1 po rv => ?_) fun _ _ _ z => z
  obtain ⟨c, e, q1⟩ := Post.lift q1
  obtain rfl := asB_some e
  unfold Rep at rv
  exact ⟨c, rv, q1 H1 k1 po⟩
end
end DL

end
section
namespace DL
open PySem PySem.Spec L2

/-! ### data as the library has it -/
mutual
def toPy : D → PyData
  | .non => .none
  | .bl b => .bool b
  | .int i => .int i
  | .str x => .str x
  | .tup ds => .tuple (toPys ds)
  | .lst ds => .list (toPys ds)
  | .rol ds => .list (toPys ds)
  | .dct _ _ => .dict []
  | .pool => .none
  | .fn _ => .none
def toPys : List D → List PyData
  | [] => []
  | d :: ds => toPy d :: toPys ds
end
/-- data that can be compared, no deeper than n -/
def sh : Nat → D → Bool
  | _, .non => true
  | _, .bl _ => true
  | _, .int _ => true
  | _, .str _ => true
  | n + 1, .tup ds => ds.all (sh n)
  | n + 1, .lst ds => ds.all (sh n)
  | n + 1, .rol ds => ds.all (sh n)
  | _, _ => false
section
variable {g : G} {L : Addr → Prop} {H : Hp}
theorem toPys_dp {n : Nat} (ih : ∀ d v, sh n d = true → Rep g L H d v → Dp g.K H v (toPy d)) : ∀ (ds : List D) (vs : List V), ds.all (sh n) = true → Reps g L H ds vs → DpAll g.K H vs (toPys ds)
  | [], _, _, h => by unfold Reps at h; subst h; exact .nil
  | d :: ds, _, s, h => by
    unfold Reps at h
    obtain ⟨v, r, rfl, h1, h2⟩ := h
    rw [List.all_cons, Bool.and_eq_true] at s
    exact .cons (ih d v s.1 h1) (toPys_dp ih ds r s.2 h2)
theorem Rep.dp : ∀ (n : Nat) (d : D) (v : V), sh n d = true → Rep g L H d v → Dp g.K H v (toPy d) := by
  intro n
  induction n with
  | zero =>
    intro d v s h
    cases d <;> simp only [sh] at s <;> first | (unfold Rep at h; subst h; constructor) | cases s
  | succ n ih =>
    intro d v s h
    cases d <;> simp only [sh] at s
    · unfold Rep at h; subst h; constructor
    · unfold Rep at h; subst h; constructor
    · unfold Rep at h; subst h; constructor
    · unfold Rep at h; subst h; constructor
    · unfold Rep at h
      obtain ⟨q, vs, rfl, t, r⟩ := h
      exact .tup t.sq (toPys_dp ih _ _ s r)
    · unfold Rep at h
      obtain ⟨q, vs, rfl, t, r⟩ := h
      exact .lst t.sq (toPys_dp ih _ _ s r)
    · cases s
    · unfold Rep at h
      obtain ⟨q, vs, rfl, t, r⟩ := h
      exact .lst t.sq (toPys_dp ih _ _ s r)
    · cases s
    · cases s
end
theorem toPys_plain {n : Nat} (ih : ∀ d, sh n d = true → (toPy d).plain = true ∧ (toPy d).depth ≤ n + 1) : ∀ ds : List D, ds.all (sh n) = true → PyData.plainAll (toPys ds) = true ∧ PyData.depthAll (toPys ds) ≤ n + 1
  | [], _ => ⟨rfl, by simp [toPys, PyData.depthAll]⟩
  | d :: ds, s => by
    rw [List.all_cons, Bool.and_eq_true] at s
    obtain ⟨h1, h2⟩ := ih d s.1
    obtain ⟨h3, h4⟩ := toPys_plain ih ds s.2
    refine ⟨by simp [toPys, PyData.plainAll, h1, h3], ?_⟩
    simp only [toPys, PyData.depthAll]
    omega
theorem toPy_plain : ∀ (n : Nat) (d : D), sh n d = true → (toPy d).plain = true ∧ (toPy d).depth ≤ n + 1 := by
  intro n
  induction n with
  | zero =>
    intro d s
    cases d <;> simp only [sh] at s <;> first | exact ⟨rfl, by simp [toPy, PyData.depth]⟩ | exact absurd s (by simp)
  | succ n ih =>
    intro d s
    cases d <;> simp only [sh] at s
    · exact ⟨rfl, by simp [toPy, PyData.depth]⟩
    · exact ⟨rfl, by simp [toPy, PyData.depth]⟩
    · exact ⟨rfl, by simp [toPy, PyData.depth]⟩
    · exact ⟨rfl, by simp [toPy, PyData.depth]⟩
    · obtain ⟨h1, h2⟩ := toPys_plain ih _ s
      exact ⟨by simp only [toPy, PyData.plain, h1], by simp only [toPy, PyData.depth]; omega⟩
    · obtain ⟨h1, h2⟩ := toPys_plain ih _ s
      exact ⟨by simp only [toPy, PyData.plain, h1], by simp only [toPy, PyData.depth]; omega⟩
    · cases s
    · obtain ⟨h1, h2⟩ := toPys_plain ih _ s
      exact ⟨by simp only [toPy, PyData.plain, h1], by simp only [toPy, PyData.depth]; omega⟩
    · cases s
    · cases s

/-! ### the rules by values, and their functions of data -/
section
variable {X : Cx}
/-- // by what is not nought, of less than 9000 bits -/
theorem op_fdX : OpR X (binaryOp .FloorDiv) (rI (fun _ j => j ≠ 0 ∧ j.natAbs.log2 < 9000) fun i j => .int (i.fdiv j)) := opI fun _ _ _ _ _ _ _ hc q => PyProof.Rows.floordiv_int hc.1 q (.inl (PyProof.noPylong_of_log2 hc.2))
def CMulD (i j : Int) : Prop := (i.natAbs < 2 ^ 64 ∨ j.natAbs < 2 ^ 64) ∨ i.natAbs.log2 + j.natAbs.log2 < 1000000
instance (i j : Int) : Decidable (CMulD i j) := by unfold CMulD; infer_instance
theorem op_mulX : OpR X (binaryOp .Mult) (rI CMulD fun i j => .int (i * j)) := opI fun i j _ _ _ _ _ hc q => PyProof.Rows.mul_int q (by
  rcases hc with hc | hc
  · exact CMul.ok (hc.elim (fun h => .inl (by omega)) fun h => .inr (by omega))
  · exact CMulW.ok hc)
def rEqP (K : PySem.W.Frag) (neg : Bool) : R2 := fun x y H Q => ∃ d e, Dp K H x d ∧ Dp K H y e ∧ d.plain = true ∧ e.plain = true ∧ d.depth ≤ 40 ∧ Q (.bl (if neg then !PyData.eqv d e else PyData.eqv d e)) H
theorem op_eqP (hu : X.A.units + 64 < cLine) : OpR X (compareOp .Eq) (rEqP X.K false) := by
  intro pins s σ H x y v u Q I rx ry ⟨d, e, hd, he, pd, pe, dd, q⟩
  obtain ⟨as, r1⟩ := Dp.reads I d x v hd rx
  obtain ⟨bs, r2⟩ := Dp.reads I e y u he ry
  exact SeqAt.eq_plain r1 r2 pd pe (by omega) ⟨.bl _, H, I, rfl, q⟩
theorem op_neP (hu : X.A.units + 64 < cLine) : OpR X (compareOp .NotEq) (rEqP X.K true) := by
  intro pins s σ H x y v u Q I rx ry ⟨d, e, hd, he, pd, pe, dd, q⟩
  obtain ⟨as, r1⟩ := Dp.reads I d x v hd rx
  obtain ⟨bs, r2⟩ := Dp.reads I e y u he ry
  exact SeqAt.ne_plain r1 r2 pd pe (by omega) ⟨.bl _, H, I, rfl, q⟩
def rInP (K : PySem.W.Frag) (neg : Bool) : R2 := fun x y H Q => ∃ d ds, Dp K H x d ∧ (Dp K H y (.list ds) ∨ Dp K H y (.tuple ds)) ∧ d.plain = true ∧ PyData.plainAll ds = true ∧ d.depth ≤ 40 ∧
  Q (.bl (if neg then !ds.any fun z => PyData.eqv z d else ds.any fun z => PyData.eqv z d)) H
theorem op_inP (hu : X.A.units + 65 < cLine) : OpR X (compareOp .In) (rInP X.K false) := by
  intro pins s σ H x y v u Q I rx ry ⟨d, ds, hd, he, pd, pe, dd, q⟩
  obtain ⟨as, r1⟩ := Dp.reads I d x v hd rx
  rcases he with he | he
  · obtain ⟨bs, r2⟩ := Dp.reads I _ y u he ry
    exact SeqAt.in_list_data r2 r1 pe pd (by omega) ⟨.bl _, H, I, rfl, q⟩
  · obtain ⟨bs, r2⟩ := Dp.reads I _ y u he ry
    exact SeqAt.in_tuple_data r2 r1 pe pd (by omega) ⟨.bl _, H, I, rfl, q⟩
theorem op_notInP (hu : X.A.units + 65 < cLine) : OpR X (compareOp .NotIn) (rInP X.K true) := by
  intro pins s σ H x y v u Q I rx ry ⟨d, ds, hd, he, pd, pe, dd, q⟩
  obtain ⟨as, r1⟩ := Dp.reads I d x v hd rx
  rcases he with he | he
  · obtain ⟨bs, r2⟩ := Dp.reads I _ y u he ry
    exact SeqAt.notIn_list_data r2 r1 pe pd (by omega) ⟨.bl _, H, I, rfl, q⟩
  · obtain ⟨bs, r2⟩ := Dp.reads I _ y u he ry
    exact SeqAt.notIn_tuple_data r2 r1 pe pd (by omega) ⟨.bl _, H, I, rfl, q⟩
theorem op_add4 : OpR X (binaryOp .Add) (fun x y H Q => rI0 (fun i j => .int (i + j)) x y H Q ∨ rCatA X.K x y H Q ∨ rCat x y H Q ∨ ∃ i j, x = .str i ∧ y = .str j ∧ i.length + j.length ≤ sizeLine ∧ Q (.str (i ++ j)) H) :=
  op_add.or (op_catA.or (op_cat.or op_add_str))
end
/-! ### t * 1 -/
theorem tuple_mul1 (l : Addr) (items : Array Value) (n : Nat) (u : Tok) (dd : Option Addr) (sl : Array (Option Value)) :
    Meets (Builtin.«tuple.__mul__» ⟨[.ref l, .int 1 u], []⟩) (fun _ R s => s.heap.get? l = some { cls := .type "tuple", dict := dd, data := .seq items n, slots := sl } ∧ R (.ok (.ret (Value.ref l))) s) :=
  .of_wp fun prog w A R s h => by
    obtain ⟨hp, g, d, tk, os⟩ := s
    obtain ⟨hl, h⟩ := h
    have f1 := AutoSeq1.idx_int
    have c1 : (items.isEmpty || (1 : Int) == 1) = true := by simp
    wp_walk using wpAny_loadPart' hl
    exact ⟨_, rfl, h⟩
def rRep1 (K : PySem.W.Frag) : R2 := fun x y H Q => ∃ l xs, x = .ref l ∧ y = .int 1 ∧ SqT K H l xs ∧ Q (.ref l) H
theorem op_rep1 {X : Cx} : OpR X (binaryOp .Mult) (rRep1 X.K) := by
  intro pins s σ H x y v u Q I rx ry h
  obtain ⟨l, xs, rfl, rfl, hT, q⟩ := h
  cases rx
  obtain ⟨t, rfl⟩ := ry
  obtain ⟨its, r, ⟨⟨cls, dd, data, sl⟩, ho, hc, n, hd⟩, hs⟩ := I.tuple hT
  simp only at hc hd
  subst hc hd
  exact wpAny_binaryOp_repeat_ref (T := "tuple") (U := "int") (by decide) ⟨_, ho, rfl⟩ (fun s' => typeIs_int s' 1 t) noFill_tuple_mul F.fills_int_mul F.slot_int_rmul repeat_tuple F.slot_int_index.lookup
    (call_meets F.slot_int_rmul (typeIs_int s 1 t) F.entry_int_rmul (F.args_int_rmul_2 _ _) (int_rmul_tuple 1 t l its.toArray n dd sl)
      ⟨ho, rfl, ⟨_, ho, rfl⟩, call_meets F.slot_tuple_mul ⟨_, ho, rfl⟩ F.entry_tuple_mul (F.args_tuple_mul_2 _ _) (tuple_mul1 l its.toArray n t dd sl) ⟨ho, .ref l, H, I, rfl, q⟩⟩)
section
variable {K : PySem.W.Frag} {mg : Str → Option Value}
def addD : D → D → Option D
  | .int i, .int j => some (.int (i + j))
  | .tup xs, .tup ys => if xs.length + ys.length ≤ 10000 then some (.tup (xs ++ ys)) else none
  | .lst xs, .lst ys => if xs.length + ys.length ≤ 10000 then some (.lst (xs ++ ys)) else none
  | .str x, .str y => if x.length + y.length ≤ 100000 then some (.str (x ++ y)) else none
  | _, _ => none
theorem line10 : 10000 ≤ sizeLine := by rw [sizeLine_eq]; decide
theorem line100 : 100000 ≤ sizeLine := by rw [sizeLine_eq]; decide
theorem Rep.tup_new {g : G} {L : Addr → Prop} {H : Hp} {q : Addr} {ds : List D} {vs : List V} (hL : ∀ q, L q → H q ≠ none) (hq : H q = none) (r : Reps g L H ds vs) : Rep g L (upd H q (.tup vs)) (.tup ds) (.ref q) := by
  unfold Rep
  exact ⟨q, vs, rfl, .inl ⟨fun z => hL q z hq, .inl upd_same⟩, Reps.mono (Kp.new hq) (fun _ h => .inl h) ds vs r⟩
theorem Rep.lst_new {g : G} {L : Addr → Prop} {H : Hp} {q : Addr} {ds : List D} {vs : List V} (hL : ∀ q, L q → H q ≠ none) (hq : H q = none) (r : Reps g L H ds vs) : Rep g L (upd H q (.lst vs)) (.lst ds) (.ref q) := by
  unfold Rep
  exact ⟨q, vs, rfl, ⟨fun z => hL q z hq, upd_same⟩, Reps.mono (Kp.new hq) (fun _ h => .inl h) ds vs r⟩
theorem reps_nil_iff {g : G} {L : Addr → Prop} {H : Hp} {ds : List D} {vs : List V} (r : Reps g L H ds vs) : vs = [] ↔ ds = [] := by
  have e := r.length
  constructor
  · rintro rfl
    exact List.length_eq_zero_iff.mp e.symm
  · rintro rfl
    exact List.length_eq_zero_iff.mp e
theorem o_add : Op2 K mg (fun x y H Q => rI0 (fun i j => .int (i + j)) x y H Q ∨ rCatA K x y H Q ∨ rCat x y H Q ∨ ∃ i j, x = .str i ∧ y = .str j ∧ i.length + j.length ≤ sizeLine ∧ Q (.str (i ++ j)) H) addD := by
  intro a L H x y d vx vy Q hL rx ry e q
  cases x <;> cases y <;> simp only [addD] at e <;> first | cases e | skip
  · unfold Rep at rx ry
    exact .inl ⟨_, _, rx, ry, q _ H (Same.refl H) (by unfold Rep; rfl)⟩
  · unfold Rep at rx ry
    split at e
    · cases e
      have := line100
      exact .inr (.inr (.inr ⟨_, _, rx, ry, by omega, q _ H (Same.refl H) (by unfold Rep; rfl)⟩))
    · cases e
  · rename_i xs ys
    split at e
    · rename_i hl
      cases e
      have rx0 := rx
      have ry0 := ry
      unfold Rep at rx ry
      obtain ⟨p, vs, rfl, t1, r1⟩ := rx
      obtain ⟨p', ws, rfl, t2, r2⟩ := ry
      have := line10
      have l1 := r1.length
      have l2 := r2.length
      refine .inr (.inl ⟨p, p', vs, ws, rfl, rfl, t1.sq, t2.sq, by omega, fun z => ?_, fun _ z => ?_, fun _ _ t ht => ?_⟩)
      · rw [(reps_nil_iff r1).mp z, List.nil_append] at q
        exact q _ H (Same.refl H) ry0
      · rw [(reps_nil_iff r2).mp z, List.append_nil] at q
        exact q _ H (Same.refl H) rx0
      · exact q _ _ (same_new ht) (Rep.tup_new hL ht (r1.append r2))
    · cases e
  · rename_i xs ys
    split at e
    · rename_i hl
      cases e
      unfold Rep at rx ry
      obtain ⟨p, vs, rfl, t1, r1⟩ := rx
      obtain ⟨p', ws, rfl, t2, r2⟩ := ry
      have := line10
      have l1 := r1.length
      have l2 := r2.length
      refine .inr (.inr (.inl ⟨p, p', vs, ws, rfl, rfl, t1.2, t2.2, by omega, fun t ht => ?_⟩))
      exact q _ _ (same_new ht) (Rep.lst_new hL ht (r1.append r2))
    · cases e
def subD : D → D → Option D
  | .int i, .int j => some (.int (i - j))
  | _, _ => none
theorem o_sub : Op2 K mg (rI0 fun i j => .int (i - j)) subD := by
  intro a L H x y d vx vy Q hL rx ry e q
  cases x <;> cases y <;> simp only [subD] at e <;> cases e
  unfold Rep at rx ry
  exact ⟨_, _, rx, ry, q _ H (Same.refl H) (by unfold Rep; rfl)⟩
def mulD : D → D → Option D
  | .int i, .int j => if CMulD i j then some (.int (i * j)) else none
  | .lst xs, .int k => if 0 ≤ k ∧ k ≤ 1000 ∧ xs.length ≤ 1000 then some (.lst (List.replicate k.toNat xs).flatten) else none
  | .tup xs, .int k => if k = 1 then some (.tup xs) else if xs ≠ [] ∧ 2 ≤ k ∧ k ≤ 1000 ∧ xs.length ≤ 1000 then some (.tup (List.replicate k.toNat xs).flatten) else none
  | _, _ => none
theorem reps_rep {g : G} {L : Addr → Prop} {H : Hp} {ds : List D} {vs : List V} (r : Reps g L H ds vs) : ∀ n : Nat, Reps g L H (List.replicate n ds).flatten (List.replicate n vs).flatten
  | 0 => Reps.nil
  | n + 1 => by
    rw [List.replicate_succ, List.replicate_succ, List.flatten_cons, List.flatten_cons]
    exact r.append (reps_rep r n)
theorem o_mul : Op2 K mg (fun x y H Q => rI CMulD (fun i j => .int (i * j)) x y H Q ∨ rRep x y H Q ∨ rRepT K x y H Q ∨ rRep1 K x y H Q) mulD := by
  intro a L H x y d vx vy Q hL rx ry e q
  cases x <;> cases y <;> simp only [mulD] at e <;> try cases e
  · split at e
    · rename_i hc
      cases e
      unfold Rep at rx ry
      exact .inl ⟨_, _, rx, ry, hc, q _ H (Same.refl H) (by unfold Rep; rfl)⟩
    · cases e
  · split at e
    · rename_i xs k hc
      cases e
      subst hc
      have rx0 := rx
      unfold Rep at rx ry
      obtain ⟨p, vs, rfl, t, r⟩ := rx
      exact .inr (.inr (.inr ⟨p, vs, rfl, ry, t.sq, q _ H (Same.refl H) rx0⟩))
    split at e
    · rename_i xs k hk hc
      cases e
      unfold Rep at rx ry
      obtain ⟨p, vs, rfl, t, r⟩ := rx
      have hl := r.length
      have ne : vs ≠ [] := fun z => by
        rw [z] at hl
        exact hc.1 (List.length_eq_zero_iff.mp hl.symm)
      exact .inr (.inr (.inl ⟨p, k, vs, rfl, ry, t.sq, ne, hc.2.1, hc.2.2.1, by omega, fun l hl => q _ _ (same_new hl) (Rep.tup_new hL hl (reps_rep r _))⟩))
    · cases e
  · split at e
    · rename_i xs k hc
      cases e
      unfold Rep at rx ry
      obtain ⟨p, vs, rfl, t, r⟩ := rx
      have hl := r.length
      have hz : vs.length * k.toNat ≤ sizeLine := by
        have h1 : vs.length * k.toNat ≤ 1000 * 1000 := Nat.mul_le_mul (by omega) (by omega)
        have h2 : 1000 * 1000 ≤ sizeLine := by rw [sizeLine_eq]; decide
        omega
      exact .inr (.inl ⟨p, k, vs, rfl, ry, t.2, by omega, by omega, hz, fun l hl => q _ _ (same_new hl) (Rep.lst_new hL hl (reps_rep r _))⟩)
    · cases e
def fdivD : D → D → Option D
  | .int i, .int j => if j ≠ 0 ∧ j.natAbs.log2 < 9000 then some (.int (i.fdiv j)) else none
  | _, _ => none
theorem o_fdiv : Op2 K mg (rI (fun _ j => j ≠ 0 ∧ j.natAbs.log2 < 9000) fun i j => .int (i.fdiv j)) fdivD := by
  intro a L H x y d vx vy Q hL rx ry e q
  cases x <;> cases y <;> simp only [fdivD] at e <;> try cases e
  split at e
  · rename_i hc
    cases e
    unfold Rep at rx ry
    exact ⟨_, _, rx, ry, hc, q _ H (Same.refl H) (by unfold Rep; rfl)⟩
  · cases e
def modD : D → D → Option D
  | .int i, .int j => if j ≠ 0 then some (.int (i.fmod j)) else none
  | _, _ => none
theorem o_mod : Op2 K mg (rI (fun _ j => j ≠ 0) fun i j => .int (i.fmod j)) modD := by
  intro a L H x y d vx vy Q hL rx ry e q
  cases x <;> cases y <;> simp only [modD] at e <;> try cases e
  split at e
  · rename_i hc
    cases e
    unfold Rep at rx ry
    exact ⟨_, _, rx, ry, hc, q _ H (Same.refl H) (by unfold Rep; rfl)⟩
  · cases e
instance (i j : Int) : Decidable (CPow i j) := by unfold CPow; infer_instance
def powD : D → D → Option D
  | .int i, .int j => if CPow i j then some (.int (i ^ j.toNat)) else none
  | _, _ => none
theorem o_pow : Op2 K mg (rI CPow fun i j => .int (i ^ j.toNat)) powD := by
  intro a L H x y d vx vy Q hL rx ry e q
  cases x <;> cases y <;> simp only [powD] at e <;> try cases e
  split at e
  · rename_i hc
    cases e
    unfold Rep at rx ry
    exact ⟨_, _, rx, ry, hc, q _ H (Same.refl H) (by unfold Rep; rfl)⟩
  · cases e
/-- a comparison of whole numbers -/
def cmpD (c : Int → Int → Bool) : D → D → Option D
  | .int i, .int j => some (.bl (c i j))
  | _, _ => none
theorem o_cmp {c : Int → Int → Bool} : Op2 K mg (rI0 fun i j => .bl (c i j)) (cmpD c) := by
  intro a L H x y d vx vy Q hL rx ry e q
  cases x <;> cases y <;> simp only [cmpD] at e <;> cases e
  unfold Rep at rx ry
  exact ⟨_, _, rx, ry, q _ H (Same.refl H) (by unfold Rep; rfl)⟩
abbrev ltD : D → D → Option D := cmpD fun i j => decide (i < j)
abbrev leD : D → D → Option D := cmpD fun i j => decide (i ≤ j)
abbrev gtD : D → D → Option D := cmpD fun i j => decide (j < i)
abbrev geD : D → D → Option D := cmpD fun i j => decide (j ≤ i)
def eqv (x y : D) : Bool := PyData.eqv (toPy x) (toPy y)
def eqD (neg : Bool) (x y : D) : Option D := if (sh 20 x && sh 20 y) = true then some (.bl (if neg then !eqv x y else eqv x y)) else none
theorem o_eq {neg : Bool} : Op2 K mg (rEqP K neg) (eqD neg) := by
  intro a L H x y d vx vy Q hL rx ry e q
  unfold eqD at e
  split at e
  · rename_i h
    cases e
    rw [Bool.and_eq_true] at h
    obtain ⟨p1, d1⟩ := toPy_plain 20 x h.1
    obtain ⟨p2, d2⟩ := toPy_plain 20 y h.2
    exact ⟨toPy x, toPy y, Rep.dp 20 x vx h.1 rx, Rep.dp 20 y vy h.2 ry, p1, p2, by omega, q _ H (Same.refl H) (by unfold Rep; rfl)⟩
  · cases e
def inD (neg : Bool) (x y : D) : Option D := match y with
  | .tup ds => if (sh 20 x && sh 20 y) = true then some (.bl (if neg then !ds.any fun z => eqv z x else ds.any fun z => eqv z x)) else none
  | .lst ds => if (sh 20 x && sh 20 y) = true then some (.bl (if neg then !ds.any fun z => eqv z x else ds.any fun z => eqv z x)) else none
  | _ => none
theorem any_toPys (x : D) : ∀ ds : List D, ((toPys ds).any fun z => PyData.eqv z (toPy x)) = ds.any fun z => eqv z x
  | [] => rfl
  | d :: ds => by
    show (PyData.eqv (toPy d) (toPy x) || (toPys ds).any fun z => PyData.eqv z (toPy x)) = _
    rw [any_toPys x ds]
    rfl
theorem o_in {neg : Bool} : Op2 K mg (rInP K neg) (inD neg) := by
  intro a L H x y d vx vy Q hL rx ry e q
  unfold inD at e
  split at e
  · split at e
    · rename_i ds h
      cases e
      rw [Bool.and_eq_true] at h
      obtain ⟨p1, d1⟩ := toPy_plain 20 x h.1
      obtain ⟨p2, d2⟩ := toPy_plain 20 _ h.2
      refine ⟨toPy x, toPys ds, Rep.dp 20 x vx h.1 rx, .inr (Rep.dp 20 _ vy h.2 ry), p1, by simpa only [toPy, PyData.plain] using p2, by omega, ?_⟩
      rw [any_toPys]
      exact q _ H (Same.refl H) (by unfold Rep; rfl)
    · cases e
  · split at e
    · rename_i ds h
      cases e
      rw [Bool.and_eq_true] at h
      obtain ⟨p1, d1⟩ := toPy_plain 20 x h.1
      obtain ⟨p2, d2⟩ := toPy_plain 20 _ h.2
      refine ⟨toPy x, toPys ds, Rep.dp 20 x vx h.1 rx, .inl (Rep.dp 20 _ vy h.2 ry), p1, by simpa only [toPy, PyData.plain] using p2, by omega, ?_⟩
      rw [any_toPys]
      exact q _ H (Same.refl H) (by unfold Rep; rfl)
    · cases e
  · cases e
/-- an item at a place -/
def ixD : D → D → Option D
  | .tup ds, .int i => atI ds i
  | .lst ds, .int i => atI ds i
  | .rol ds, .int i => atI ds i
  | _, _ => none
theorem reps_at {g : G} {L : Addr → Prop} {H : Hp} {ds : List D} {vs : List V} {i : Int} {d : D} (r : Reps g L H ds vs) (e : atI ds i = some d) : ∃ v, atI vs i = some v ∧ Rep g L H d v := by
  unfold atI at e ⊢
  rw [r.length]
  cases z : ixN ds.length i with
  | none => rw [z] at e; cases e
  | some j =>
    rw [z] at e
    exact r.get e
theorem o_ix : Op2 K mg (rIx K) ixD := by
  intro a L H x y d vx vy Q hL rx ry e q
  cases x <;> cases y <;> simp only [ixD] at e <;> try cases e
  · unfold Rep at rx ry
    obtain ⟨p, vs, rfl, t, r⟩ := rx
    obtain ⟨v, e1, rv⟩ := reps_at r e
    exact .inr (.inl ⟨p, vs, _, v, rfl, ry, t.sq, e1, q v H (Same.refl H) rv⟩)
  · unfold Rep at rx ry
    obtain ⟨p, vs, rfl, t, r⟩ := rx
    obtain ⟨v, e1, rv⟩ := reps_at r e
    exact .inl ⟨p, vs, _, v, rfl, ry, t.sq, e1, q v H (Same.refl H) rv⟩
  · unfold Rep at rx ry
    obtain ⟨p, vs, rfl, t, r⟩ := rx
    obtain ⟨v, e1, rv⟩ := reps_at r e
    exact .inl ⟨p, vs, _, v, rfl, ry, t.sq, e1, q v H (Same.refl H) rv⟩
end
section
variable {X : Cx} {W : WX} {own : List Nat} {e a b c : Expr} {es rest : List Expr} {pos p2 : Pos} {f g h : DEnv → M D}
theorem pd_add (ha : PD X W own a f) (hb : PD X W own b g) : PD X W own (.BinOp a .Add b pos) (d2 addD f g) := pd_op op_add4 o_add ha hb
theorem pd_sub (ha : PD X W own a f) (hb : PD X W own b g) : PD X W own (.BinOp a .Sub b pos) (d2 subD f g) := pd_op op_sub o_sub ha hb
theorem pd_mul (ha : PD X W own a f) (hb : PD X W own b g) : PD X W own (.BinOp a .Mult b pos) (d2 mulD f g) := pd_op (op_mulX.or (op_rep.or (op_repT.or op_rep1))) o_mul ha hb
theorem pd_fdiv (ha : PD X W own a f) (hb : PD X W own b g) : PD X W own (.BinOp a .FloorDiv b pos) (d2 fdivD f g) := pd_op op_fdX o_fdiv ha hb
theorem pd_mod (ha : PD X W own a f) (hb : PD X W own b g) : PD X W own (.BinOp a .Mod b pos) (d2 modD f g) := pd_op op_modN o_mod ha hb
theorem pd_pow (ha : PD X W own a f) (hb : PD X W own b g) : PD X W own (.BinOp a .Pow b pos) (d2 powD f g) := pd_op op_pow o_pow ha hb
theorem pd_lt (ha : PD X W own a f) (hb : PD X W own b g) : PD X W own (.Compare a [.Lt] [b] pos) (d2 ltD f g) := pd_cmp op_lt o_cmp ha hb (nomark _)
theorem pd_le (ha : PD X W own a f) (hb : PD X W own b g) : PD X W own (.Compare a [.LtE] [b] pos) (d2 leD f g) := pd_cmp op_le o_cmp ha hb (nomark _)
theorem pd_gt (ha : PD X W own a f) (hb : PD X W own b g) : PD X W own (.Compare a [.Gt] [b] pos) (d2 gtD f g) := pd_cmp op_gt o_cmp ha hb (nomark _)
theorem pd_ge (ha : PD X W own a f) (hb : PD X W own b g) : PD X W own (.Compare a [.GtE] [b] pos) (d2 geD f g) := pd_cmp op_ge o_cmp ha hb (nomark _)
theorem pd_eq (hu : X.A.units + 64 < cLine) (ha : PD X W own a f) (hb : PD X W own b g) : PD X W own (.Compare a [.Eq] [b] pos) (d2 (eqD false) f g) := pd_cmp (op_eqP hu) o_eq ha hb (nomark _)
theorem pd_ne (hu : X.A.units + 64 < cLine) (ha : PD X W own a f) (hb : PD X W own b g) : PD X W own (.Compare a [.NotEq] [b] pos) (d2 (eqD true) f g) := pd_cmp (op_neP hu) o_eq ha hb (nomark _)
theorem pd_in (hu : X.A.units + 65 < cLine) (ha : PD X W own a f) (hb : PD X W own b g) (hm : behindInMarks .In b = false := by rfl) : PD X W own (.Compare a [.In] [b] pos) (d2 (inD false) f g) := pd_cmp (op_inP hu) o_in ha hb hm
theorem pd_notIn (hu : X.A.units + 65 < cLine) (ha : PD X W own a f) (hb : PD X W own b g) (hm : behindInMarks .NotIn b = false := by rfl) : PD X W own (.Compare a [.NotIn] [b] pos) (d2 (inD true) f g) := pd_cmp (op_notInP hu) o_in ha hb hm
theorem pd_ix (ha : PD X W own a f) (hb : PD X W own b g) (hs : PlainIx b := by intro _ _; rfl) : PD X W own (.Subscript a b pos) (d2 ixD f g) := (pe_ix ix_seq ha hb hs).imp fun _ _ _ q => tD.op2 o_ix q
/-- is None -/
def isN (neg : Bool) : D → D
  | .non => .bl (!neg)
  | _ => .bl neg
def dIsN (neg : Bool) (f : DEnv → M D) (ε : DEnv) : M D := f ε >>= fun x => pure (isN neg x)
theorem isN_rep {K : PySem.W.Frag} {mg : Str → Option Value} {a : Option Addr} {L L' : Addr → Prop} {H H' : Hp} {x : D} {v : V} (r : Rep ⟨K, mg, a⟩ L H x v) : Rep ⟨K, mg, a⟩ L' H' (isN false x) (.bl (decide (v = .non))) ∧ Rep ⟨K, mg, a⟩ L' H' (isN true x) (.bl (!decide (v = .non))) := by
  cases x <;> unfold Rep at r <;> simp only [isN] <;> (unfold Rep) <;> first
    | (subst r; exact ⟨rfl, rfl⟩)
    | (obtain ⟨q, rfl, _⟩ := r; exact ⟨rfl, rfl⟩)
    | (obtain ⟨q, _, rfl, _⟩ := r; exact ⟨rfl, rfl⟩)
theorem pd_isN {j p3} (ha : PD X W own a f) : PD X W own (.Compare a [.Is] [.Constant .none j p3] pos) (dIsN false f) := (pe_cmpR op_isN ha pe_non (nomark _)).imp fun σ H Q ⟨P, ε, p, rel, q⟩ => by
  refine tD.seq (k := fun x _ => pure (isN false x)) rel q fun x vx H1 p1 k1 r1 rx q1 => ?_
  exact ⟨rfl, q1 _ H1 k1 r1.pool (isN_rep rx).1⟩
theorem pd_notN {j p3} (ha : PD X W own a f) : PD X W own (.Compare a [.IsNot] [.Constant .none j p3] pos) (dIsN true f) := (pe_cmpR op_notN ha pe_non (nomark _)).imp fun σ H Q ⟨P, ε, p, rel, q⟩ => by
  refine tD.seq (k := fun x _ => pure (isN true x)) rel q fun x vx H1 p1 k1 r1 rx q1 => ?_
  exact ⟨rfl, q1 _ H1 k1 r1.pool (isN_rep rx).2⟩
def negD : D → Option D
  | .int i => some (.int (-i))
  | _ => none
def d1 (o : D → Option D) (f : DEnv → M D) (ε : DEnv) : M D := f ε >>= fun x => liftO (o x)
theorem pd_neg (ha : PD X W own a f) : PD X W own (.UnaryOp .USub a pos) (d1 negD f) := (pe_un un_neg ha).imp fun σ H Q ⟨P, ε, p, rel, q⟩ => by
  refine tD.seq (k := fun x _ => liftO (negD x)) rel q fun x vx H1 p1 k1 r1 rx q1 => ?_
  obtain ⟨d, e, q1⟩ := Post.lift q1
  cases x <;> simp only [negD] at e <;> cases e
  unfold Rep at rx
  exact ⟨_, rx, q1 _ H1 k1 r1.pool (by unfold Rep; rfl)⟩
/-! ### and, or, not, if -/
def dNot (f : DEnv → M Bool) (ε : DEnv) : M Bool := f ε >>= fun c => pure (!c)
def dAnd (f g : DEnv → M Bool) (ε : DEnv) : M Bool := f ε >>= fun c => if c then g ε else pure false
def dOr (f g : DEnv → M Bool) (ε : DEnv) : M Bool := f ε >>= fun c => if c then pure true else g ε
def dBl (f : DEnv → M Bool) (ε : DEnv) : M D := f ε >>= fun c => pure (.bl c)
def dIte (c : DEnv → M Bool) (f g : DEnv → M D) (ε : DEnv) : M D := c ε >>= fun b => if b then f ε else g ε
variable {fb gb : DEnv → M Bool} {α : Type}
theorem tDT.seq {f : DEnv → M Bool} {k : Bool → DEnv → M α} {σ : St} {H : Hp} {P : FP K mg} {ε : DEnv} {p : Pool} {R : α → Pool → Prop} {T : Bool → Hp → Prop}
    (r : SRel P own σ H ε p) (h : Post ((f ε >>= fun x => k x ε) p) R (XKx P σ H W))
    (n : ∀ x H1 p1, Kp (AA P) H H1 → SRel P own σ H1 ε p1 → Post (k x ε p1) R (XKx P σ H1 W) → T x H1) : tDT K mg W own f σ H T :=
  ⟨P, ε, p, r, (Post.thn h).mono (fun x p1 hp H1 k1 po => n x H1 p1 k1 (r.step k1 po) (hp.mono (fun _ _ z => z) fun _ _ _ z => z.shift k1)) fun _ _ _ z => z⟩
theorem BK.of_shift {K : PySem.W.Frag} {mg : Str → Option Value} {P : FP K mg} {H H1 : Hp} {Q : Bool → Hp → Prop} {x x' : Str → Option (Str × D) → Pool → Prop} {o : Out Bool} (k : Kp (AA P) H H1) (h : Post o (BK P H Q) x) (hx : ∀ c d p, x c d p → x' c d p) : Post o (BK P H1 Q) x' := h.mono (fun _ _ z => z.shift k) hx
theorem pdt_not (ha : PDT X W own a fb) : PDT X W own (.UnaryOp .Not a pos) (dNot fb) := (pt_not ha).imp fun σ H Q ⟨P, ε, p, rel, q⟩ => by
  refine tDT.seq (k := fun c _ => pure (!c)) rel q fun x H1 p1 k1 r1 q1 => ?_
  exact q1 H1 k1 r1.pool
theorem pdw_and1 (ha : PDT X W own a fb) : PDW X W own (.BoolOp .And [a] pos) fb := pw_and1 ha
theorem pdw_or1 (ha : PDT X W own a fb) : PDW X W own (.BoolOp .Or [a] pos) fb := pw_or1 ha
theorem pdw_and (ha : PDT X W own a fb) (hb : PDW X W own (.BoolOp .And (b :: rest) pos) gb) : PDW X W own (.BoolOp .And (a :: b :: rest) pos) (dAnd fb gb) := (pw_and ha hb).imp fun σ H Q ⟨P, ε, p, rel, q⟩ => by
  refine tDT.seq (k := fun c ε => if c then gb ε else pure false) rel q fun x H1 p1 k1 r1 q1 => ?_
  cases x with
  | true => rw [if_pos rfl]; exact ⟨P, ε, p1, r1, q1.mono (fun _ _ z => z.shift k1) fun _ _ _ z => z⟩
  | false => rw [if_neg (by decide)]; exact q1 H1 k1 r1.pool
theorem pdw_or (ha : PDT X W own a fb) (hb : PDW X W own (.BoolOp .Or (b :: rest) pos) gb) : PDW X W own (.BoolOp .Or (a :: b :: rest) pos) (dOr fb gb) := (pw_or ha hb).imp fun σ H Q ⟨P, ε, p, rel, q⟩ => by
  refine tDT.seq (k := fun c ε => if c then pure true else gb ε) rel q fun x H1 p1 k1 r1 q1 => ?_
  cases x with
  | true => rw [if_pos rfl]; exact q1 H1 k1 r1.pool
  | false => rw [if_neg (by decide)]; exact ⟨P, ε, p1, r1, q1.mono (fun _ _ z => z.shift k1) fun _ _ _ z => z⟩
theorem PW.pdt (ha : PDW X W own a fb) : PDT X W own a fb := PW.pt ha
/-- values -/
def dAndV (f g : DEnv → M D) (ε : DEnv) : M D := f ε >>= fun x => liftO (asB x) >>= fun c => if c then g ε else pure (.bl false)
def dOrV (f g : DEnv → M D) (ε : DEnv) : M D := f ε >>= fun x => liftO (asB x) >>= fun c => if c then pure (.bl true) else g ε
def dNotV (f : DEnv → M D) (ε : DEnv) : M D := f ε >>= fun x => liftO (asB x) >>= fun c => pure (.bl (!c))
theorem pd_one {op} (ha : PD X W own a f) : PD X W own (.BoolOp op [a] pos) f := pe_one ha
theorem pd_and (ha : PD X W own a f) (hb : PD X W own (.BoolOp .And (b :: rest) pos) g) : PD X W own (.BoolOp .And (a :: b :: rest) pos) (dAndV f g) := (pe_and ha hb).imp fun σ H Q ⟨P, ε, p, rel, q⟩ => by
  refine tD.seq (k := fun x ε => liftO (asB x) >>= fun c => if c then g ε else pure (.bl false)) rel q fun x vx H1 p1 k1 r1 rx q1 => ?_
  obtain ⟨c, e, q1⟩ := Post.lift (Post.thn q1)
  obtain rfl := asB_some e
  unfold Rep at rx
  refine ⟨c, rx, ?_⟩
  cases c with
  | true => rw [if_pos rfl]; exact ⟨P, ε, p1, r1, q1.mono (fun _ _ z => z.shift k1) fun _ _ _ z => z⟩
  | false => rw [if_neg (by decide)]; exact q1 _ H1 k1 r1.pool (by unfold Rep; rfl)
theorem pd_or (ha : PD X W own a f) (hb : PD X W own (.BoolOp .Or (b :: rest) pos) g) : PD X W own (.BoolOp .Or (a :: b :: rest) pos) (dOrV f g) := (pe_or ha hb).imp fun σ H Q ⟨P, ε, p, rel, q⟩ => by
  refine tD.seq (k := fun x ε => liftO (asB x) >>= fun c => if c then pure (D.bl true) else g ε) rel q fun x vx H1 p1 k1 r1 rx q1 => ?_
  obtain ⟨c, e, q1⟩ := Post.lift (Post.thn q1)
  obtain rfl := asB_some e
  unfold Rep at rx
  refine ⟨c, rx, ?_⟩
  cases c with
  | true => rw [if_pos rfl]; exact q1 _ H1 k1 r1.pool (by unfold Rep; rfl)
  | false => rw [if_neg (by decide)]; exact ⟨P, ε, p1, r1, q1.mono (fun _ _ z => z.shift k1) fun _ _ _ z => z⟩
theorem pd_not (ha : PD X W own a f) : PD X W own (.UnaryOp .Not a pos) (dNotV f) := (pe_not ha).imp fun σ H Q ⟨P, ε, p, rel, q⟩ => by
  refine tD.seq (k := fun x ε => liftO (asB x) >>= fun c => pure (D.bl (!c))) rel q fun x vx H1 p1 k1 r1 rx q1 => ?_
  obtain ⟨c, e, q1⟩ := Post.lift (Post.thn q1)
  obtain rfl := asB_some e
  unfold Rep at rx
  exact ⟨c, rx, q1 _ H1 k1 r1.pool (by unfold Rep; rfl)⟩
theorem pd_ite (hc : PDT X W own c fb) (ha : PD X W own a f) (hb : PD X W own b g) : PD X W own (.IfExp c a b pos) (dIte fb f g) := (pe_ifExp hc ha hb).imp fun σ H Q ⟨P, ε, p, rel, q⟩ => by
  refine tDT.seq (k := fun b ε => if b then f ε else g ε) rel q fun x H1 p1 k1 r1 q1 => ?_
  cases x with
  | true => rw [if_pos rfl]; exact ⟨P, ε, p1, r1, q1.mono (fun _ _ z => z.shift k1) fun _ _ _ z => z⟩
  | false => rw [if_neg (by decide)]; exact ⟨P, ε, p1, r1, q1.mono (fun _ _ z => z.shift k1) fun _ _ _ z => z⟩
end
end DL

end
section
namespace DL
open PySem PySem.Spec L2

section
variable {X : Cx} {W : WX} {own : List Nat} {e a b c : Expr} {es rest : List Expr} {pos p2 : Pos} {f g h : DEnv → M D} {fs : DEnv → M (List D)}
/-! ### arguments, displays -/
def dNil (_ : DEnv) : M (List D) := pure []
def dCons (f : DEnv → M D) (g : DEnv → M (List D)) (ε : DEnv) : M (List D) := f ε >>= fun x => g ε >>= fun xs => pure (x :: xs)
theorem tDA.seq {K : PySem.W.Frag} {mg : Str → Option Value} {α : Type} {f : DEnv → M (List D)} {k : List D → DEnv → M α} {σ : St} {H : Hp} {P : FP K mg} {ε : DEnv} {p : Pool} {R : α → Pool → Prop} {T : List V → Hp → Prop}
    (r : SRel P own σ H ε p) (h : Post ((f ε >>= fun x => k x ε) p) R (XKx P σ H W))
    (n : ∀ x v H1 p1, Kp (AA P) H H1 → SRel P own σ H1 ε p1 → Reps P.g (L0 P) H1 x v → Post (k x ε p1) R (XKx P σ H1 W) → T v H1) : tDA K mg W own f σ H T :=
  ⟨P, ε, p, r, (Post.thn h).mono (fun x p1 hp v H1 k1 po rv => n x v H1 p1 k1 (r.step k1 po) rv (hp.mono (fun _ _ z => z) fun _ _ _ z => z.shift k1)) fun _ _ _ z => z⟩
theorem pda_nil : PDA X W own [] dNil := pa_nil.imp fun σ H Q ⟨P, ε, p, rel, q⟩ => q [] H (Kp.refl _ _) rel.pool Reps.nil
theorem pda_cons (ha : PD X W own e f) (hr : PDA X W own es fs) (hs : starEach (e :: es) X.env = (false, eval e X.env) :: starEach es X.env := by rfl) : PDA X W own (e :: es) (dCons f fs) := (pa_cons ha hr hs).imp fun σ H Q ⟨P, ε, p, rel, q⟩ => by
  refine tD.seq (k := fun x ε => fs ε >>= fun xs => pure (x :: xs)) rel q fun x vx H1 p1 k1 r1 rx q1 => ?_
  refine tDA.seq (k := fun xs _ => pure (x :: xs)) r1 q1 fun xs vs H2 p2 k2 r2 rxs q2 => ?_
  exact q2 (vx :: vs) H2 (k1.trans k2) r2.pool (.cons (Rep.mono (k2.weak fun q h => .inr h) (fun _ h => .inl h) x vx rx) rxs)
def tupO (ds : List D) : Option D := if ds.length ≤ 10000 then some (.tup ds) else none
def lstO (ds : List D) : Option D := if ds.length ≤ 10000 then some (.lst ds) else none
def dA (o : List D → Option D) (fs : DEnv → M (List D)) (ε : DEnv) : M D := fs ε >>= fun ds => liftO (o ds)
theorem pd_tup {x1} (ha : PDA X W own es fs) : PD X W own (.Tuple es x1 pos) (dA tupO fs) := (pe_tup ha).imp fun σ H Q ⟨P, ε, p, rel, q⟩ => by
  refine tDA.seq (k := fun xs _ => liftO (tupO xs)) rel q fun xs vs H1 p1 k1 r1 rxs q1 => ?_
  obtain ⟨d, e, q1⟩ := Post.lift q1
  unfold tupO at e
  split at e
  · cases e
    have l := rxs.length
    have := line10
    refine ⟨by omega, fun t ht => q1 _ _ (k1.trans (Kp.new ht)) (r1.pool.kp (same_new ht)) (Rep.tup_new r1.there ht rxs)⟩
  · cases e
theorem pd_lst (ha : PDA X W own es fs) : PD X W own (.List es pos) (dA lstO fs) := (pe_lst ha).imp fun σ H Q ⟨P, ε, p, rel, q⟩ => by
  refine tDA.seq (k := fun xs _ => liftO (lstO xs)) rel q fun xs vs H1 p1 k1 r1 rxs q1 => ?_
  obtain ⟨d, e, q1⟩ := Post.lift q1
  unfold lstO at e
  split at e
  · cases e
    have l := rxs.length
    have := line10
    refine ⟨by omega, fun t ht => q1 _ _ (k1.trans (Kp.new ht)) (r1.pool.kp (same_new ht)) (Rep.lst_new r1.there ht rxs)⟩
  · cases e

/-! ### built-ins by name -/
/-- a rule by values of arguments, by a function of data -/
def OpN (K : PySem.W.Frag) (mg : Str → Option Value) (r : List V → Hp → VK → Prop) (op : List D → Option D) : Prop := ∀ (a : Option Addr) (L : Addr → Prop) (H : Hp) (xs : List D) (d : D) (vs : List V) (Q : VK), (∀ q, L q → H q ≠ none) → Reps ⟨K, mg, a⟩ L H xs vs →
  op xs = some d → (∀ v H', Same H H' → Rep ⟨K, mg, a⟩ L H' d v → Q v H') → r vs H Q
theorem tDA.opN {K : PySem.W.Frag} {mg : Str → Option Value} {r : List V → Hp → VK → Prop} {op : List D → Option D} (hr : OpN K mg r op) {σ : St} {H : Hp} {Q : VK} (q : tD K mg W own (dA op fs) σ H Q) : tCB r (tDA K mg W own fs) σ H Q := by
  obtain ⟨P, ε, p, rel, q⟩ := q
  refine tDA.seq (k := fun xs _ => liftO (op xs)) rel q fun xs vs H1 p1 k1 r1 rxs q1 => ?_
  obtain ⟨d, e, q1⟩ := Post.lift q1
  exact hr P.a (L0 P) H1 xs d vs Q r1.there rxs e fun v H' s rv => q1 v H' (k1.trans (Kp.same s)) (r1.pool.kp s) rv
theorem pd_callB {x : Str} {id : String} {r : List V → Hp → VK → Prop} {o : List D → Option D} {p : Pos} (hc : CallR X (.builtin id) r) (ho : OpN X.K X.mg r o) (hm : X.mg x = none) (hv : bootBuiltins x = some (.builtin id)) (ha : PDA X W own (e :: es) fs) (hg : Gl X x := by rfl) (hn : x ≠ "__name__" := by decide)
    (hdb : (x == ("__debug__" : Str)) = false := by decide) (he : starEach (e :: es) X.env = (false, eval e X.env) :: starEach es X.env := by rfl) (hpl : (backTo pos (starEach es X.env)).any (·.1) = false := by rfl) : PD X W own (.Call (.Name x p) (e :: es) [] pos) (dA o fs) :=
  (pe_callB hc hg hm hv ha hn hdb he hpl).imp fun _ _ _ q => tDA.opN ho q
theorem pd_callTy {x : Str} {T : String} {r : List V → Hp → VK → Prop} {o : List D → Option D} {p : Pos} (hc : CallR X (.type T) r) (ho : OpN X.K X.mg r o) (hm : X.mg x = none) (hv : bootBuiltins x = some (.type T)) (ha : PDA X W own (e :: es) fs) (hg : Gl X x := by rfl) (hn : x ≠ "__name__" := by decide)
    (hdb : (x == ("__debug__" : Str)) = false := by decide) (he : starEach (e :: es) X.env = (false, eval e X.env) :: starEach es X.env := by rfl) (hpl : (backTo pos (starEach es X.env)).any (·.1) = false := by rfl) : PD X W own (.Call (.Name x p) (e :: es) [] pos) (dA o fs) :=
  (pe_callTy hc hg hm hv ha hn hdb he hpl).imp fun _ _ _ q => tDA.opN ho q
end
section
variable {K : PySem.W.Frag} {mg : Str → Option Value}
theorem Reps.one {g : G} {L : Addr → Prop} {H : Hp} {d : D} {vs : List V} (h : Reps g L H [d] vs) : ∃ v, vs = [v] ∧ Rep g L H d v := by
  unfold Reps at h
  obtain ⟨v, r, rfl, h1, h2⟩ := h
  unfold Reps at h2
  subst h2
  exact ⟨v, rfl, h1⟩
theorem Reps.two {g : G} {L : Addr → Prop} {H : Hp} {d e : D} {vs : List V} (h : Reps g L H [d, e] vs) : ∃ v w, vs = [v, w] ∧ Rep g L H d v ∧ Rep g L H e w := by
  unfold Reps at h
  obtain ⟨v, r, rfl, h1, h2⟩ := h
  obtain ⟨w, rfl, h3⟩ := Reps.one h2
  exact ⟨v, w, rfl, h1, h3⟩
def lenD : List D → Option D
  | [.tup ds] => some (.int ds.length)
  | [.lst ds] => some (.int ds.length)
  | [.rol ds] => some (.int ds.length)
  | [.str x] => if x.length ≤ 100000 then some (.int x.length) else none
  | _ => none
def rLen (K : PySem.W.Frag) : List V → Hp → VK → Prop := fun xs H Q => (∃ p ys, xs = [.ref p] ∧ (SqL K H p ys ∨ SqT K H p ys) ∧ Q (.int ys.length) H) ∨ ∃ z, xs = [.str z] ∧ z.length ≤ sizeLine ∧ Q (.int z.length) H
theorem cr_len2 {X : Cx} : CallR X (.builtin "len") (rLen X.K) := call_len_seq.or call_len_str
theorem o_len : OpN K mg (rLen K) lenD := by
  intro a L H xs d vs Q hL r e q
  unfold lenD at e
  split at e
  · cases e
    obtain ⟨v, rfl, rv⟩ := r.one
    unfold Rep at rv
    obtain ⟨p, ws, rfl, t, rs⟩ := rv
    refine .inl ⟨p, ws, rfl, .inr t.sq, ?_⟩
    rw [rs.length]
    exact q _ H (Same.refl H) (by unfold Rep; rfl)
  · cases e
    obtain ⟨v, rfl, rv⟩ := r.one
    unfold Rep at rv
    obtain ⟨p, ws, rfl, t, rs⟩ := rv
    refine .inl ⟨p, ws, rfl, .inl t.sq, ?_⟩
    rw [rs.length]
    exact q _ H (Same.refl H) (by unfold Rep; rfl)
  · cases e
    obtain ⟨v, rfl, rv⟩ := r.one
    unfold Rep at rv
    obtain ⟨p, ws, rfl, t, rs⟩ := rv
    refine .inl ⟨p, ws, rfl, .inl t.sq, ?_⟩
    rw [rs.length]
    exact q _ H (Same.refl H) (by unfold Rep; rfl)
  · split at e
    · cases e
      obtain ⟨v, rfl, rv⟩ := r.one
      unfold Rep at rv
      have := line100
      exact .inr ⟨_, by rw [rv], by omega, q _ H (Same.refl H) (by unfold Rep; rfl)⟩
    · cases e
  · cases e
def tupleD : List D → Option D
  | [.tup ds] => some (.tup ds)
  | [.lst ds] => some (.tup ds)
  | [.rol ds] => some (.tup ds)
  | _ => none
theorem o_tuple : OpN K mg (fun xs H Q => ∃ p ys, xs = [.ref p] ∧ ((SqL K H p ys ∧ ∀ l, H l = none → Q (.ref l) (upd H l (.tup ys))) ∨ (SqT K H p ys ∧ Q (.ref p) H))) tupleD := by
  intro a L H xs d vs Q hL r e q
  unfold tupleD at e
  split at e
  · cases e
    obtain ⟨v, rfl, rv⟩ := r.one
    have rv0 := rv
    unfold Rep at rv
    obtain ⟨p, ws, rfl, t, rs⟩ := rv
    exact ⟨p, ws, rfl, .inr ⟨t.sq, q _ H (Same.refl H) rv0⟩⟩
  · cases e
    obtain ⟨v, rfl, rv⟩ := r.one
    unfold Rep at rv
    obtain ⟨p, ws, rfl, t, rs⟩ := rv
    exact ⟨p, ws, rfl, .inl ⟨t.sq, fun l hl => q _ _ (same_new hl) (Rep.tup_new hL hl rs)⟩⟩
  · cases e
    obtain ⟨v, rfl, rv⟩ := r.one
    unfold Rep at rv
    obtain ⟨p, ws, rfl, t, rs⟩ := rv
    exact ⟨p, ws, rfl, .inl ⟨t.sq, fun l hl => q _ _ (same_new hl) (Rep.tup_new hL hl rs)⟩⟩
  · cases e
def listD : List D → Option D
  | [.tup ds] => some (.lst ds)
  | [.lst ds] => some (.lst ds)
  | [.rol ds] => some (.lst ds)
  | _ => none
theorem o_list : OpN K mg (fun xs H Q => ∃ p ys, xs = [.ref p] ∧ (SqL K H p ys ∨ SqT K H p ys) ∧ ∀ l, H l = none → Q (.ref l) (upd H l (.lst ys))) listD := by
  intro a L H xs d vs Q hL r e q
  unfold listD at e
  split at e
  · cases e
    obtain ⟨v, rfl, rv⟩ := r.one
    unfold Rep at rv
    obtain ⟨p, ws, rfl, t, rs⟩ := rv
    exact ⟨p, ws, rfl, .inr t.sq, fun l hl => q _ _ (same_new hl) (Rep.lst_new hL hl rs)⟩
  · cases e
    obtain ⟨v, rfl, rv⟩ := r.one
    unfold Rep at rv
    obtain ⟨p, ws, rfl, t, rs⟩ := rv
    exact ⟨p, ws, rfl, .inl t.sq, fun l hl => q _ _ (same_new hl) (Rep.lst_new hL hl rs)⟩
  · cases e
    obtain ⟨v, rfl, rv⟩ := r.one
    unfold Rep at rv
    obtain ⟨p, ws, rfl, t, rs⟩ := rv
    exact ⟨p, ws, rfl, .inl t.sq, fun l hl => q _ _ (same_new hl) (Rep.lst_new hL hl rs)⟩
  · cases e
/-- bools of a list -/
def asBs : List D → Option (List Bool)
  | [] => some []
  | d :: ds => match asB d, asBs ds with
    | some b, some bs => some (b :: bs)
    | _, _ => none
theorem asBs_reps {g : G} {L : Addr → Prop} {H : Hp} : ∀ {ds : List D} {bs : List Bool} {vs : List V}, asBs ds = some bs → Reps g L H ds vs → vs = bs.map V.bl
  | [], bs, vs, e, r => by cases e; unfold Reps at r; exact r
  | d :: ds, bs, vs, e, r => by
    unfold Reps at r
    obtain ⟨v, r', rfl, h1, h2⟩ := r
    unfold asBs at e
    cases eb : asB d with
    | none => rw [eb] at e; cases e
    | some b =>
      cases ebs : asBs ds with
      | none => rw [eb, ebs] at e; cases e
      | some bs' =>
        rw [eb, ebs] at e
        cases e
        obtain rfl := asB_some eb
        unfold Rep at h1
        rw [h1, asBs_reps ebs h2]
        rfl
def allD : List D → Option D
  | [.lst ds] => (asBs ds).map fun bs => .bl (bs.all id)
  | _ => none
def anyD : List D → Option D
  | [.lst ds] => (asBs ds).map fun bs => .bl (bs.any id)
  | _ => none
theorem o_all : OpN K mg (rAll K) allD := by
  intro a L H xs d vs Q hL r e q
  unfold allD at e
  split at e
  · rename_i ds
    cases eb : asBs ds with
    | none => rw [eb] at e; cases e
    | some bs =>
      rw [eb] at e
      cases e
      obtain ⟨v, rfl, rv⟩ := r.one
      unfold Rep at rv
      obtain ⟨p, ws, rfl, t, rs⟩ := rv
      exact ⟨p, bs, rfl, by rw [← asBs_reps eb rs]; exact t.sq, q _ H (Same.refl H) (by unfold Rep; rfl)⟩
  · cases e
theorem o_any : OpN K mg (rAny K) anyD := by
  intro a L H xs d vs Q hL r e q
  unfold anyD at e
  split at e
  · rename_i ds
    cases eb : asBs ds with
    | none => rw [eb] at e; cases e
    | some bs =>
      rw [eb] at e
      cases e
      obtain ⟨v, rfl, rv⟩ := r.one
      unfold Rep at rv
      obtain ⟨p, ws, rfl, t, rs⟩ := rv
      exact ⟨p, bs, rfl, by rw [← asBs_reps eb rs]; exact t.sq, q _ H (Same.refl H) (by unfold Rep; rfl)⟩
  · cases e
/-- ints of a list -/
def asI : D → Option Int
  | .int i => some i
  | _ => none
theorem asI_some {x : D} {c : Int} (h : asI x = some c) : x = .int c := by
  cases x <;> simp only [asI] at h <;> cases h
  rfl
def asIs : List D → Option (List Int)
  | [] => some []
  | d :: ds => match asI d, asIs ds with
    | some b, some bs => some (b :: bs)
    | _, _ => none
theorem asIs_reps {g : G} {L : Addr → Prop} {H : Hp} : ∀ {ds : List D} {bs : List Int} {vs : List V}, asIs ds = some bs → Reps g L H ds vs → vs = bs.map V.int
  | [], bs, vs, e, r => by cases e; unfold Reps at r; exact r
  | d :: ds, bs, vs, e, r => by
    unfold Reps at r
    obtain ⟨v, r', rfl, h1, h2⟩ := r
    unfold asIs at e
    cases eb : asI d with
    | none => rw [eb] at e; cases e
    | some b =>
      cases ebs : asIs ds with
      | none => rw [eb, ebs] at e; cases e
      | some bs' =>
        rw [eb, ebs] at e
        cases e
        obtain rfl := asI_some eb
        unfold Rep at h1
        rw [h1, asIs_reps ebs h2]
        rfl
def listMax : List Int → Int
  | [] => 0
  | x :: xs => xs.foldl max x
def listMin : List Int → Int
  | [] => 0
  | x :: xs => xs.foldl min x
theorem foldl_max_le : ∀ (xs : List Int) (m : Int), m ≤ xs.foldl max m ∧ ∀ y ∈ xs, y ≤ xs.foldl max m
  | [], m => ⟨Int.le_refl m, fun _ h => nomatch h⟩
  | x :: xs, m => by
    obtain ⟨h1, h2⟩ := foldl_max_le xs (max m x)
    rw [List.foldl_cons]
    refine ⟨by omega, fun y hy => ?_⟩
    rcases List.mem_cons.mp hy with rfl | hy
    · omega
    · exact h2 y hy
theorem foldl_min_le : ∀ (xs : List Int) (m : Int), xs.foldl min m ≤ m ∧ ∀ y ∈ xs, xs.foldl min m ≤ y
  | [], m => ⟨Int.le_refl m, fun _ h => nomatch h⟩
  | x :: xs, m => by
    obtain ⟨h1, h2⟩ := foldl_min_le xs (min m x)
    rw [List.foldl_cons]
    refine ⟨by omega, fun y hy => ?_⟩
    rcases List.mem_cons.mp hy with rfl | hy
    · omega
    · exact h2 y hy
theorem listMax_of {ns : List Int} {m : Int} (h : m ∈ ns) (hm : ∀ y ∈ ns, y ≤ m) : m = listMax ns := by
  cases ns with
  | nil => cases h
  | cons x xs =>
    obtain ⟨h1, h2⟩ := foldl_max_le xs x
    have up : xs.foldl max x ≤ m := by
      have key : ∀ (l : List Int) (z : Int), z ≤ m → (∀ y ∈ l, y ≤ m) → l.foldl max z ≤ m := by
        intro l
        induction l with
        | nil => intro z hz _; exact hz
        | cons y l ih => intro z hz hl; rw [List.foldl_cons]; exact ih _ (by have := hl y List.mem_cons_self; omega) fun w hw => hl w (List.mem_cons_of_mem _ hw)
      exact key xs x (hm x List.mem_cons_self) fun y hy => hm y (List.mem_cons_of_mem _ hy)
    have dn : m ≤ xs.foldl max x := by
      rcases List.mem_cons.mp h with rfl | h
      · exact h1
      · exact h2 m h
    show m = xs.foldl max x
    omega
theorem listMin_of {ns : List Int} {m : Int} (h : m ∈ ns) (hm : ∀ y ∈ ns, m ≤ y) : m = listMin ns := by
  cases ns with
  | nil => cases h
  | cons x xs =>
    obtain ⟨h1, h2⟩ := foldl_min_le xs x
    have up : m ≤ xs.foldl min x := by
      have key : ∀ (l : List Int) (z : Int), m ≤ z → (∀ y ∈ l, m ≤ y) → m ≤ l.foldl min z := by
        intro l
        induction l with
        | nil => intro z hz _; exact hz
        | cons y l ih => intro z hz hl; rw [List.foldl_cons]; exact ih _ (by have := hl y List.mem_cons_self; omega) fun w hw => hl w (List.mem_cons_of_mem _ hw)
      exact key xs x (hm x List.mem_cons_self) fun y hy => hm y (List.mem_cons_of_mem _ hy)
    have dn : xs.foldl min x ≤ m := by
      rcases List.mem_cons.mp h with rfl | h
      · exact h1
      · exact h2 m h
    show m = xs.foldl min x
    omega
/-- max, min of two numbers, of a list of numbers -/
def maxD : List D → Option D
  | [.int i, .int j] => some (.int (if j > i then j else i))
  | [.lst ds] => (asIs ds).bind fun ns => if ns = [] then none else some (.int (listMax ns))
  | _ => none
def minD : List D → Option D
  | [.int i, .int j] => some (.int (if j < i then j else i))
  | [.lst ds] => (asIs ds).bind fun ns => if ns = [] then none else some (.int (listMin ns))
  | _ => none
def rMax2 (K : PySem.W.Frag) : List V → Hp → VK → Prop := fun xs H Q => (∃ i j, xs = [.int i, .int j] ∧ Q (.int (if j > i then j else i)) H) ∨ rMax K xs H Q
def rMin2 (K : PySem.W.Frag) : List V → Hp → VK → Prop := fun xs H Q => (∃ i j, xs = [.int i, .int j] ∧ Q (.int (if j < i then j else i)) H) ∨ rMin K xs H Q
theorem o_max : OpN K mg (rMax2 K) maxD := by
  intro a L H xs d vs Q hL r e q
  unfold maxD at e
  split at e
  · cases e
    obtain ⟨v, w, rfl, r1, r2⟩ := r.two
    unfold Rep at r1 r2
    exact .inl ⟨_, _, by rw [r1, r2], q _ H (Same.refl H) (by unfold Rep; rfl)⟩
  · rename_i ds
    cases eb : asIs ds with
    | none => rw [eb] at e; cases e
    | some ns =>
      rw [eb] at e
      by_cases hn : ns = []
      · rw [Option.bind_some, if_pos hn] at e; cases e
      · rw [Option.bind_some, if_neg hn] at e
        cases e
        obtain ⟨v, rfl, rv⟩ := r.one
        unfold Rep at rv
        obtain ⟨p, ws, rfl, t, rs⟩ := rv
        refine .inr ⟨p, ns, rfl, by rw [← asIs_reps eb rs]; exact t.sq, List.length_pos_iff.mpr hn, fun m hm hy => ?_⟩
        rw [listMax_of hm hy]
        exact q _ H (Same.refl H) (by unfold Rep; rfl)
  · cases e
theorem o_min : OpN K mg (rMin2 K) minD := by
  intro a L H xs d vs Q hL r e q
  unfold minD at e
  split at e
  · cases e
    obtain ⟨v, w, rfl, r1, r2⟩ := r.two
    unfold Rep at r1 r2
    exact .inl ⟨_, _, by rw [r1, r2], q _ H (Same.refl H) (by unfold Rep; rfl)⟩
  · rename_i ds
    cases eb : asIs ds with
    | none => rw [eb] at e; cases e
    | some ns =>
      rw [eb] at e
      by_cases hn : ns = []
      · rw [Option.bind_some, if_pos hn] at e; cases e
      · rw [Option.bind_some, if_neg hn] at e
        cases e
        obtain ⟨v, rfl, rv⟩ := r.one
        unfold Rep at rv
        obtain ⟨p, ws, rfl, t, rs⟩ := rv
        refine .inr ⟨p, ns, rfl, by rw [← asIs_reps eb rs]; exact t.sq, List.length_pos_iff.mpr hn, fun m hm hy => ?_⟩
        rw [listMin_of hm hy]
        exact q _ H (Same.refl H) (by unfold Rep; rfl)
  · cases e
/-- int, abs, gcd, divmod -/
def intD : List D → Option D
  | [.int i] => some (.int i)
  | [.bl b] => some (.int (if b then 1 else 0))
  | _ => none
theorem o_int : OpN K mg (fun xs H Q => (∃ i, xs = [.int i] ∧ Q (.int i) H) ∨ ∃ k, xs = [.bl k] ∧ Q (.int (if k then 1 else 0)) H) intD := by
  intro a L H xs d vs Q hL r e q
  unfold intD at e
  split at e
  · cases e
    obtain ⟨v, rfl, rv⟩ := r.one
    unfold Rep at rv
    exact .inl ⟨_, by rw [rv], q _ H (Same.refl H) (by unfold Rep; rfl)⟩
  · cases e
    obtain ⟨v, rfl, rv⟩ := r.one
    unfold Rep at rv
    exact .inr ⟨_, by rw [rv], q _ H (Same.refl H) (by unfold Rep; rfl)⟩
  · cases e
def absD : List D → Option D
  | [.int i] => some (.int (if i < 0 then -i else i))
  | _ => none
theorem o_abs : OpN K mg (fun xs H Q => ∃ i, xs = [.int i] ∧ Q (.int (if i < 0 then -i else i)) H) absD := by
  intro a L H xs d vs Q hL r e q
  unfold absD at e
  split at e
  · cases e
    obtain ⟨v, rfl, rv⟩ := r.one
    unfold Rep at rv
    exact ⟨_, by rw [rv], q _ H (Same.refl H) (by unfold Rep; rfl)⟩
  · cases e
def gcdD : List D → Option D
  | [.int i, .int j] => some (.int ((Nat.gcd i.natAbs j.natAbs : Nat) : Int))
  | _ => none
theorem o_gcd : OpN K mg rGcd gcdD := by
  intro a L H xs d vs Q hL r e q
  unfold gcdD at e
  split at e
  · cases e
    obtain ⟨v, w, rfl, r1, r2⟩ := r.two
    unfold Rep at r1 r2
    exact ⟨_, _, by rw [r1, r2], q _ H (Same.refl H) (by unfold Rep; rfl)⟩
  · cases e
instance (i j : Int) : Decidable (CDiv i j) := by unfold CDiv; infer_instance
def divmodD : List D → Option D
  | [.int i, .int j] => if CDiv i j then some (.tup [.int (i / j), .int (i % j)]) else none
  | _ => none
theorem o_divmod : OpN K mg (fun xs H Q => ∃ i j, xs = [.int i, .int j] ∧ CDiv i j ∧ ∀ p, H p = none → Q (.ref p) (upd H p (.tup [.int (i / j), .int (i % j)]))) divmodD := by
  intro a L H xs d vs Q hL r e q
  unfold divmodD at e
  split at e
  · split at e
    · rename_i hc
      cases e
      obtain ⟨v, w, rfl, r1, r2⟩ := r.two
      unfold Rep at r1 r2
      exact ⟨_, _, by rw [r1, r2], hc, fun p hp => q _ _ (same_new hp) (Rep.tup_new hL hp (.cons (by unfold Rep; rfl) (.cons (by unfold Rep; rfl) .nil)))⟩
    · cases e
  · cases e
/-! ### isinstance with a built-in type -/
def tyName : D → Option String
  | .non => some "NoneType"
  | .bl _ => some "bool"
  | .int _ => some "int"
  | .str _ => some "str"
  | .tup _ => some "tuple"
  | .lst _ => some "list"
  | .dct _ _ => some "dict"
  | _ => none
theorem ty_of {g : G} {L : Addr → Prop} {H : Hp} {d : D} {v : V} {T : String} (r : Rep g L H d v) (e : tyName d = some T) : TyX g.K H v (.type T) := by
  cases d <;> simp only [tyName] at e <;> cases e <;> unfold Rep at r
  · subst r; exact .base .non
  · subst r; exact .base (.bl _)
  · subst r; exact .base (.int _)
  · subst r; exact .base (.str _)
  · obtain ⟨q, vs, rfl, t, _⟩ := r
    rcases t with ⟨_, t | ⟨o, t⟩⟩ | t
    · exact .base (.tup t)
    · exact .fTuple t
    · rcases t with t | ⟨o, its, n, hk, hc, _⟩
      · exact (rd_empty t).elim
      · exact .kTuple hk hc
  · obtain ⟨q, vs, rfl, t, _⟩ := r
    exact .base (.lst t.2)
  · obtain ⟨q, kvs, rfl, _, t, _⟩ := r
    exact .base (.dK t)
/-- isinstance(x, T) -/
def isD (T : String) : D → Option D := fun d => (tyName d).bind fun t => (kitB t T).map D.bl
end
section
variable {X : Cx} {W : WX} {own : List Nat} {e a b c : Expr} {es rest : List Expr} {pos p p2 p3 : Pos} {f g h : DEnv → M D} {fs : DEnv → M (List D)}
theorem cr_max2 (hc : X.calm = true) : CallR X (.builtin "max") (rMax2 X.K) := (call_max2 hc).or (cr_max hc)
theorem cr_min2 (hc : X.calm = true) : CallR X (.builtin "min") (rMin2 X.K) := (call_min2 hc).or (cr_min hc)
theorem pd_len (hm : X.mg "len" = none) (ha : PDA X W own (e :: es) fs) (hg : Gl X "len" := by rfl) (he : starEach (e :: es) X.env = (false, eval e X.env) :: starEach es X.env := by rfl) (hpl : (backTo pos (starEach es X.env)).any (·.1) = false := by rfl) :
    PD X W own (.Call (.Name "len" p) (e :: es) [] pos) (dA lenD fs) := pd_callB cr_len2 o_len hm PySem.boot_len ha hg (by decide) (by decide) he hpl
theorem pd_tuple (hm : X.mg "tuple" = none) (ha : PDA X W own (e :: es) fs) (hg : Gl X "tuple" := by rfl) (he : starEach (e :: es) X.env = (false, eval e X.env) :: starEach es X.env := by rfl) (hpl : (backTo pos (starEach es X.env)).any (·.1) = false := by rfl) :
    PD X W own (.Call (.Name "tuple" p) (e :: es) [] pos) (dA tupleD fs) := pd_callTy call_tuple_of o_tuple hm (by decide +kernel) ha hg (by decide) (by decide) he hpl
theorem pd_list (hm : X.mg "list" = none) (ha : PDA X W own (e :: es) fs) (hg : Gl X "list" := by rfl) (he : starEach (e :: es) X.env = (false, eval e X.env) :: starEach es X.env := by rfl) (hpl : (backTo pos (starEach es X.env)).any (·.1) = false := by rfl) :
    PD X W own (.Call (.Name "list" p) (e :: es) [] pos) (dA listD fs) := pd_callTy call_list_of o_list hm (by decide +kernel) ha hg (by decide) (by decide) he hpl
theorem pd_all (hc : X.calm = true) (hm : X.mg "all" = none) (ha : PDA X W own (e :: es) fs) (hg : Gl X "all" := by rfl) (he : starEach (e :: es) X.env = (false, eval e X.env) :: starEach es X.env := by rfl) (hpl : (backTo pos (starEach es X.env)).any (·.1) = false := by rfl) :
    PD X W own (.Call (.Name "all" p) (e :: es) [] pos) (dA allD fs) := pd_callB (cr_all hc) o_all hm (by decide +kernel) ha hg (by decide) (by decide) he hpl
theorem pd_any (hc : X.calm = true) (hm : X.mg "any" = none) (ha : PDA X W own (e :: es) fs) (hg : Gl X "any" := by rfl) (he : starEach (e :: es) X.env = (false, eval e X.env) :: starEach es X.env := by rfl) (hpl : (backTo pos (starEach es X.env)).any (·.1) = false := by rfl) :
    PD X W own (.Call (.Name "any" p) (e :: es) [] pos) (dA anyD fs) := pd_callB (cr_any hc) o_any hm (by decide +kernel) ha hg (by decide) (by decide) he hpl
theorem pd_max (hc : X.calm = true) (hm : X.mg "max" = none) (ha : PDA X W own (e :: es) fs) (hg : Gl X "max" := by rfl) (he : starEach (e :: es) X.env = (false, eval e X.env) :: starEach es X.env := by rfl) (hpl : (backTo pos (starEach es X.env)).any (·.1) = false := by rfl) :
    PD X W own (.Call (.Name "max" p) (e :: es) [] pos) (dA maxD fs) := pd_callB (cr_max2 hc) o_max hm (by decide +kernel) ha hg (by decide) (by decide) he hpl
theorem pd_min (hc : X.calm = true) (hm : X.mg "min" = none) (ha : PDA X W own (e :: es) fs) (hg : Gl X "min" := by rfl) (he : starEach (e :: es) X.env = (false, eval e X.env) :: starEach es X.env := by rfl) (hpl : (backTo pos (starEach es X.env)).any (·.1) = false := by rfl) :
    PD X W own (.Call (.Name "min" p) (e :: es) [] pos) (dA minD fs) := pd_callB (cr_min2 hc) o_min hm (by decide +kernel) ha hg (by decide) (by decide) he hpl
theorem pd_intc (hm : X.mg "int" = none) (ha : PDA X W own (e :: es) fs) (hg : Gl X "int" := by rfl) (he : starEach (e :: es) X.env = (false, eval e X.env) :: starEach es X.env := by rfl) (hpl : (backTo pos (starEach es X.env)).any (·.1) = false := by rfl) :
    PD X W own (.Call (.Name "int" p) (e :: es) [] pos) (dA intD fs) := pd_callTy call_int1 o_int hm (by decide +kernel) ha hg (by decide) (by decide) he hpl
theorem pd_abs (hm : X.mg "abs" = none) (ha : PDA X W own (e :: es) fs) (hg : Gl X "abs" := by rfl) (he : starEach (e :: es) X.env = (false, eval e X.env) :: starEach es X.env := by rfl) (hpl : (backTo pos (starEach es X.env)).any (·.1) = false := by rfl) :
    PD X W own (.Call (.Name "abs" p) (e :: es) [] pos) (dA absD fs) := pd_callB call_abs o_abs hm (by decide +kernel) ha hg (by decide) (by decide) he hpl
theorem pd_divmod (hm : X.mg "divmod" = none) (ha : PDA X W own (e :: es) fs) (hg : Gl X "divmod" := by rfl) (he : starEach (e :: es) X.env = (false, eval e X.env) :: starEach es X.env := by rfl) (hpl : (backTo pos (starEach es X.env)).any (·.1) = false := by rfl) :
    PD X W own (.Call (.Name "divmod" p) (e :: es) [] pos) (dA divmodD fs) := pd_callB call_divmod o_divmod hm (by decide +kernel) ha hg (by decide) (by decide) he hpl
/-- math.gcd, the module's own name for it -/
theorem pd_gcd (hm : X.mg "gcd" = some (.builtin "math.gcd")) (ha : PDA X W own (e :: es) fs) (hg : Gl X "gcd" := by rfl) (he : starEach (e :: es) X.env = (false, eval e X.env) :: starEach es X.env := by rfl) (hpl : (backTo pos (starEach es X.env)).any (·.1) = false := by rfl) :
    PD X W own (.Call (.Name "gcd" p) (e :: es) [] pos) (dA gcdD fs) := (pe_callBfun cr_gcd hg hm ha (by decide) he hpl).imp fun _ _ _ q => tDA.opN o_gcd q
theorem pd_isi {x : Str} {T : String} (hm : X.mg "isinstance" = none) (hmT : X.mg x = none) (hT : bootBuiltins x = some (.type T)) (ha : PD X W own e f) (hg : Gl X "isinstance" := by rfl) (hgT : Gl X x := by rfl) (hn : x ≠ "__name__" := by decide) (hd : (x == ("__debug__" : Str)) = false := by decide)
    (he : starEach [e, .Name x p2] X.env = (false, eval e X.env) :: starEach [.Name x p2] X.env := by rfl) (he2 : starEach [.Name x p2] X.env = (false, eval (.Name x p2) X.env) :: starEach [] X.env := by rfl) (hpl : (backTo pos (starEach [.Name x p2] X.env)).any (·.1) = false := by rfl) :
    PD X W own (.Call (.Name "isinstance" p) [e, .Name x p2] [] pos) (d1 (isD T) f) :=
  (pe_callB call_isi hg hm (by decide +kernel) (pa_cons ha (pa_cons (pe_bltn (v := .ty T) hgT hmT hT rfl hn hd) pa_nil he2) he) (by decide) (by decide) he hpl).imp fun σ H Q ⟨P, ε, p, rel, q⟩ => by
  refine tD.seq (k := fun x _ => liftO (isD T x)) rel q fun x vx H1 p1 k1 r1 rx q1 => ?_
  obtain ⟨d, e, q1⟩ := Post.lift q1
  unfold isD at e
  cases et : tyName x with
  | none => rw [et] at e; cases e
  | some t =>
    rw [et] at e
    cases ek : kitB t T with
    | none => rw [Option.bind_some, ek] at e; cases e
    | some b =>
      rw [Option.bind_some, ek] at e
      cases e
      exact ⟨vx, .ty T, .type t, .type T, b, rfl, .ty T, ty_of rx et, kit_ty ek, q1 _ H1 k1 r1.pool (by unfold Rep; rfl)⟩
end
end DL

end
section
namespace DL
open PySem PySem.Spec L2

/-- how a statement ends -/
inductive Fl where
  | nx (ε : DEnv) | rt (d : D) | bk (ε : DEnv) | ct (ε : DEnv)
  | xc (c : Str) (d : Option (Str × D)) (ε : DEnv)
/-- an expression within a statement: what it raises leaves the slots as they are -/
def sx {α : Type} (ε : DEnv) (m : M α) (k : α → M Fl) : M Fl := fun p => match m p with
  | .ok a p' => k a p'
  | .ex c d p' => .ok (.xc c d ε) p'
  | .bad => .bad
@[simp] theorem sx_pure {α : Type} (ε : DEnv) (a : α) (k : α → M Fl) : sx ε (pure a) k = k a := rfl
theorem sx_ap {α : Type} (ε : DEnv) (m : M α) (k : α → M Fl) (p : Pool) : sx ε m k p = (match m p with
  | .ok a p' => k a p'
  | .ex c d p' => .ok (.xc c d ε) p'
  | .bad => .bad) := rfl
section
variable {K : PySem.W.Frag} {mg : Str → Option Value}
/-- what was tracked stays, but the pool and the owned lists; further owned ones are new -/
structure Grow (P : FP K mg) (own : List Nat) (σ : St) (H : Hp) (σ' : St) (H' : Hp) : Prop where
  kp : Kp (LL P own σ) H H'
  more : ∀ q, LL P own σ' q → LL P own σ q ∨ H q = none
theorem Grow.refl {P : FP K mg} {own : List Nat} {σ : St} {H : Hp} : Grow P own σ H σ H := ⟨Kp.refl _ _, fun _ h => .inl h⟩
theorem Grow.trans {P : FP K mg} {own : List Nat} {σ σ1 σ2 : St} {H H1 H2 : Hp} (a : Grow P own σ H σ1 H1) (b : Grow P own σ1 H1 σ2 H2) : Grow P own σ H σ2 H2 := by
  refine ⟨fun q o e n => b.kp q o (a.kp q o e n) fun z => (a.more q z).elim n fun y => (by rw [e] at y; cases y), fun q h => ?_⟩
  rcases b.more q h with h | h
  · exact a.more q h
  · by_cases n : LL P own σ q
    · exact .inl n
    · cases e : H q with
      | none => exact .inr rfl
      | some o =>
        rw [a.kp q o e n] at h
        cases h
theorem Grow.ex {P : FP K mg} {own : List Nat} {σ : St} {H H' : Hp} (k : Kp (AA P) H H') : Grow P own σ H σ H' := ⟨k.weak fun _ h => .inr (.inl h), fun _ h => .inl h⟩
/-- an expression ahead -/
theorem Grow.exq {P : FP K mg} {own : List Nat} {σ σ' : St} {H H1 H' : Hp} (k : Kp (AA P) H H1) (g : Grow P own σ H1 σ' H') : Grow P own σ H σ' H' := (Grow.ex k).trans g
def FK (P : FP K mg) (own : List Nat) (W : WX) (Z : Ends) (σ : St) (H : Hp) : Fl → Pool → Prop
  | .nx ε', p' => ∀ σ' H', SRel P own σ' H' ε' p' → Grow P own σ H σ' H' → Z.nx σ' H'
  | .rt d, p' => ∀ v H', Kp (AA P) P.H0 H' → PoolOk P.g H' p' → Rep P.g (L0 P) H' d v → Z.rt v H'
  | .bk ε', p' => ∀ σ' H', SRel P own σ' H' ε' p' → Grow P own σ H σ' H' → Z.bk σ' H'
  | .ct ε', p' => ∀ σ' H', SRel P own σ' H' ε' p' → Grow P own σ H σ' H' → Z.ct σ' H'
  | .xc c d ε', p' => ∀ σ' cv dx H', SRel P own σ' H' ε' p' → Grow P own σ H σ' H' → ExR P (L0 P) H' c d cv dx → W cv dx σ' H'
theorem FK.go {P : FP K mg} {own : List Nat} {W : WX} {Z : Ends} {σ σ1 : St} {H H1 : Hp} {fl : Fl} {p : Pool} (g : Grow P own σ H σ1 H1) (h : FK P own W Z σ H fl p) : FK P own W Z σ1 H1 fl p := by
  cases fl with
  | nx ε' => exact fun σ' H' r g' => h σ' H' r (g.trans g')
  | rt d => exact h
  | bk ε' => exact fun σ' H' r g' => h σ' H' r (g.trans g')
  | ct ε' => exact fun σ' H' r g' => h σ' H' r (g.trans g')
  | xc c d ε' => exact fun σ' cv dx H' r g' => h σ' cv dx H' r (g.trans g')
theorem FK.goP {P : FP K mg} {own : List Nat} {W : WX} {Z : Ends} {σ σ1 : St} {H H1 : Hp} {o : Out Fl} {x : Str → Option (Str × D) → Pool → Prop} (g : Grow P own σ H σ1 H1) (h : Post o (FK P own W Z σ H) x) : Post o (FK P own W Z σ1 H1) x := h.mono (fun _ _ z => z.go g) fun _ _ _ z => z
def NoX : Str → Option (Str × D) → Pool → Prop := fun _ _ _ => False
def tS (K : PySem.W.Frag) (mg : Str → Option Value) (W : WX) (own : List Nat) (m : DEnv → M Fl) : TS := fun Z σ H => ∃ (P : FP K mg) (ε : DEnv) (p : Pool), SRel P own σ H ε p ∧ Post (m ε p) (FK P own W Z σ H) NoX
theorem sx_post {α : Type} {ε : DEnv} {m : M α} {k : α → M Fl} {p : Pool} {R : Fl → Pool → Prop} (h : Post (sx ε m k p) R NoX) : Post (m p) (fun a p' => Post (k a p') R NoX) (fun c d p' => R (.xc c d ε) p') := by
  rw [sx_ap] at h
  cases e : m p <;> rw [e] at h <;> exact h
variable {P : FP K mg} {own : List Nat} {σ : St} {H H1 H' : Hp} {ε : DEnv} {p p' : Pool} {W : WX} {Z : Ends}
theorem FK.xc {c : Str} {d : Option (Str × D)} (r : SRel P own σ H ε p) (h : FK P own W Z σ H (.xc c d ε) p') : XKx P σ H W c d p' := fun cv dx H' k po x => h σ cv dx H' (r.step k po) (Grow.ex k) x
/-- an expression, then the rest of the statement -/
theorem tD.sxq {f : DEnv → M D} {k : D → DEnv → M Fl} {T : VK} (r : SRel P own σ H ε p) (h : Post (sx ε (f ε) (fun x => k x ε) p) (FK P own W Z σ H) NoX)
    (n : ∀ x v H1 p1, Kp (AA P) H H1 → SRel P own σ H1 ε p1 → Rep P.g (L0 P) H1 x v → Post (k x ε p1) (FK P own W Z σ H1) NoX → T v H1) : tD K mg W own f σ H T :=
  ⟨P, ε, p, r, (sx_post h).mono (fun x p1 hp v H1 k1 po rv => n x v H1 p1 k1 (r.step k1 po) rv (FK.goP (Grow.ex k1) hp)) fun c d p1 z => FK.xc r z⟩
theorem tDT.sxq {f : DEnv → M Bool} {k : Bool → DEnv → M Fl} {T : Bool → Hp → Prop} (r : SRel P own σ H ε p) (h : Post (sx ε (f ε) (fun x => k x ε) p) (FK P own W Z σ H) NoX)
    (n : ∀ x H1 p1, Kp (AA P) H H1 → SRel P own σ H1 ε p1 → Post (k x ε p1) (FK P own W Z σ H1) NoX → T x H1) : tDT K mg W own f σ H T :=
  ⟨P, ε, p, r, (sx_post h).mono (fun x p1 hp H1 k1 po => n x H1 p1 k1 (r.step k1 po) (FK.goP (Grow.ex k1) hp)) fun c d p1 z => FK.xc r z⟩
theorem tDA.sxq {f : DEnv → M (List D)} {k : List D → DEnv → M Fl} {T : List V → Hp → Prop} (r : SRel P own σ H ε p) (h : Post (sx ε (f ε) (fun x => k x ε) p) (FK P own W Z σ H) NoX)
    (n : ∀ x v H1 p1, Kp (AA P) H H1 → SRel P own σ H1 ε p1 → Reps P.g (L0 P) H1 x v → Post (k x ε p1) (FK P own W Z σ H1) NoX → T v H1) : tDA K mg W own f σ H T :=
  ⟨P, ε, p, r, (sx_post h).mono (fun x p1 hp v H1 k1 po rv => n x v H1 p1 k1 (r.step k1 po) rv (FK.goP (Grow.ex k1) hp)) fun c d p1 z => FK.xc r z⟩
end
section
variable {X : Cx} {W : WX} {own : List Nat} {e a b c : Expr} {es : List Expr} {pos p2 : Pos} {f g h : DEnv → M D} {fs : DEnv → M (List D)} {fb : DEnv → M Bool} {st : Stmt} {sts : List Stmt} {m n : DEnv → M Fl}
abbrev PDS (X : Cx) (W : WX) (own : List Nat) (st : Stmt) (m : DEnv → M Fl) : Prop := PS X st (tS X.K X.mg W own m)
abbrev PDSs (X : Cx) (W : WX) (own : List Nat) (st : List Stmt) (m : DEnv → M Fl) : Prop := PSs X st (tS X.K X.mg W own m)
/-! ### blocks, return, if -/
def sNil (ε : DEnv) : M Fl := pure (.nx ε)
def sSeq (m n : DEnv → M Fl) (ε : DEnv) : M Fl := m ε >>= fun fl => match fl with
  | .nx ε' => n ε'
  | fl => pure fl
theorem pdss_nil : PDSs X W own [] sNil := pss_nil.imp fun Z σ H ⟨P, ε, p, r, q⟩ => q σ H r Grow.refl
theorem pdss_cons (h1 : PDS X W own st m) (h2 : PDSs X W own sts n) : PDSs X W own (st :: sts) (sSeq m n) := (pss_cons h1 h2).imp fun Z σ H ⟨P, ε, p, r, q⟩ => by
  refine ⟨P, ε, p, r, (Post.thn q).mono (fun fl p1 z => ?_) fun _ _ _ z => z⟩
  cases fl with
  | nx ε' => exact fun σ' H' r' g' => ⟨P, ε', p1, r', FK.goP g' z⟩
  | rt d => exact z
  | bk ε' => exact z
  | ct ε' => exact z
  | xc c d ε' => exact z
theorem pdss_one (h1 : PDS X W own st m) : PDSs X W own [st] m := pss_one h1
def sRet (f : DEnv → M D) (ε : DEnv) : M Fl := sx ε (f ε) fun d => pure (.rt d)
theorem pds_ret (he : PD X W own e f) : PDS X W own (.Return (some e) pos) (sRet f) := (ps_ret he).imp fun Z σ H ⟨P, ε, p, r, q⟩ => by
  refine tD.sxq (k := fun d _ => pure (Fl.rt d)) r q fun x v H1 p1 k1 r1 rx q1 => ?_
  exact q1 v H1 r1.keep r1.pool rx
def sRetN (_ : DEnv) : M Fl := pure (.rt .non)
theorem pds_retN : PDS X W own (.Return none pos) sRetN := ps_retN.imp fun Z σ H ⟨P, ε, p, r, q⟩ => q .non H r.keep r.pool (by unfold Rep; rfl)
def sIf (c : DEnv → M Bool) (m n : DEnv → M Fl) (ε : DEnv) : M Fl := sx ε (c ε) fun b => if b then m ε else n ε
theorem pds_if {x y : List Stmt} (hc : PDT X W own c fb) (ha : PDSs X W own x m) (hb : PDSs X W own y n) : PDS X W own (.If c x y pos) (sIf fb m n) := (ps_if hc ha hb).imp fun Z σ H ⟨P, ε, p, r, q⟩ => by
  refine tDT.sxq (k := fun b ε => if b then m ε else n ε) r q fun x H1 p1 k1 r1 q1 => ?_
  cases x with
  | true => rw [if_pos rfl]; exact ⟨P, ε, p1, r1, q1⟩
  | false => rw [if_neg (by decide)]; exact ⟨P, ε, p1, r1, q1⟩
theorem pds_pass : PDS X W own (.Pass pos) sNil := ps_pass.imp fun Z σ H ⟨P, ε, p, r, q⟩ => q σ H r Grow.refl
def sBrk (ε : DEnv) : M Fl := pure (.bk ε)
def sCont (ε : DEnv) : M Fl := pure (.ct ε)
theorem pds_break : PDS X W own (.Break pos) sBrk := ps_break.imp fun Z σ H ⟨P, ε, p, r, q⟩ => q σ H r Grow.refl
theorem pds_cont : PDS X W own (.Continue pos) sCont := ps_continue.imp fun Z σ H ⟨P, ε, p, r, q⟩ => q σ H r Grow.refl
def sDrop (f : DEnv → M D) (ε : DEnv) : M Fl := sx ε (f ε) fun _ => pure (.nx ε)
theorem pds_expr (he : PD X W own e f) (hs : swapsWith e none pos.line X.env = pure false := by rfl) : PDS X W own (.Expr e pos) (sDrop f) := (ps_expr he hs).imp fun Z σ H ⟨P, ε, p, r, q⟩ => by
  refine tD.sxq (k := fun d ε => pure (Fl.nx ε)) r q fun x v H1 p1 k1 r1 rx q1 => ?_
  exact q1 σ H1 r1 Grow.refl
/-- what is never come to -/
def sNever (_ : DEnv) : M Fl := M.fail
theorem pds_never : PDS X W own st sNever := ⟨fun _ _ _ _ _ _ ⟨_, _, _, _, q⟩ => q.elim⟩
theorem pdss_never : PDSs X W own sts sNever := ⟨fun _ _ _ _ _ _ ⟨_, _, _, _, q⟩ => q.elim⟩
end

/-! ### stores -/
section
variable {K : PySem.W.Frag} {mg : Str → Option Value} {P : FP K mg} {own : List Nat} {σ : St} {H H1 H' : Hp} {ε : DEnv} {p p' : Pool}
theorem getElem?_set_cases {α : Type} {l : List α} {i j : Nat} {x y : α} (h : (l.set i x)[j]? = some y) : (i = j ∧ y = x) ∨ (i ≠ j ∧ l[j]? = some y) := by
  by_cases e : i = j
  · subst e
    by_cases hl : i < l.length
    · rw [List.getElem?_set_self hl] at h
      exact .inl ⟨rfl, (Option.some.inj h).symm⟩
    · rw [List.getElem?_eq_none (by rw [List.length_set]; omega)] at h
      cases h
  · rw [List.getElem?_set_ne e] at h
    exact .inr ⟨e, h⟩
theorem LL.set_ne (hi : i ∉ own) {v : V} {q : Addr} : LL P own (σ.set i (some v)) q ↔ LL P own σ q := by
  unfold LL
  constructor
  · rintro (h | h | ⟨j, hj, h⟩)
    · exact .inl h
    · exact .inr (.inl h)
    · rcases getElem?_set_cases h with ⟨rfl, _⟩ | ⟨_, h⟩
      · exact (hi hj).elim
      · exact .inr (.inr ⟨j, hj, h⟩)
  · rintro (h | h | ⟨j, hj, h⟩)
    · exact .inl h
    · exact .inr (.inl h)
    · refine .inr (.inr ⟨j, hj, ?_⟩)
      rw [List.getElem?_set_ne (by intro z; subst z; exact hi hj)]
      exact h
/-- LL's own lists are no tuples -/
theorem SRel.notTup (r : SRel P own σ H ε p) {q : Addr} (h : LL P own σ q) : L0 P q ∨ ∀ vs, ¬ Rd H q (.tup vs) := by
  rcases h with h | h | ⟨i, hi, h⟩
  · exact .inl (.inl h)
  · exact .inl (.inr h)
  · obtain ⟨q', e, _, m⟩ := r.ownst i hi _ h
    cases e
    refine .inr fun vs z => ?_
    rcases m with ⟨_, m⟩ | ⟨_, m⟩ | ⟨_, m⟩ <;> rcases z with z | ⟨o, z⟩ <;> rw [m] at z <;> cases z
/-- a slot that is no owned one gets a value -/
theorem SRel.set (r : SRel P own σ H ε p) {i : Nat} {d : D} {v : V} (hi : i ∉ own) (rv : Rep P.g (LL P own σ) H d v) : SRel P own (σ.set i (some v)) H (ε.set i (some d)) p := by
  have hL : ∀ q, LL P own (σ.set i (some v)) q → LL P own σ q ∨ H q = none := fun q h => .inl ((LL.set_ne hi).mp h)
  refine ⟨by rw [List.length_set, List.length_set]; exact r.len, fun j d' hj e => ?_, fun j d' hj e => ?_, fun j hj w e => ?_, fun j j' q hj hj' e e' => ?_, r.pool, r.keep, r.there, r.apart, r.apartA, fun j hj q e => ?_⟩
  · rcases getElem?_set_cases e with ⟨rfl, e2⟩ | ⟨ne, e⟩
    · cases e2
      have hl : i < σ.length := by
        rw [← r.len]
        by_cases z : i < ε.length
        · exact z
        · rw [List.getElem?_eq_none (by rw [List.length_set]; omega)] at *; contradiction
      exact ⟨v, List.getElem?_set_self hl, Rep.mono (Kp.refl _ _) hL _ _ rv⟩
    · obtain ⟨w, e1, h⟩ := r.slots j d' hj e
      exact ⟨w, by rw [List.getElem?_set_ne ne]; exact e1, Rep.mono (Kp.refl _ _) hL _ _ h⟩
  · have ne : i ≠ j := by intro z; subst z; exact hi hj
    rw [List.getElem?_set_ne ne] at e
    obtain ⟨q, e1, h⟩ := r.owned j d' hj e
    exact ⟨q, by rw [List.getElem?_set_ne ne]; exact e1, OwnRep.mono (Kp.refl _ _) hL rfl h⟩
  · have ne : i ≠ j := by intro z; subst z; exact hi hj
    rw [List.getElem?_set_ne ne] at e
    exact r.ownst j hj w e
  · rw [List.getElem?_set_ne (by intro z; subst z; exact hi hj)] at e
    rw [List.getElem?_set_ne (by intro z; subst z; exact hi hj')] at e'
    exact r.ownne j j' q hj hj' e e'
  · rw [List.getElem?_set_ne (by intro z; subst z; exact hi hj)] at e
    exact r.ownF j hj q e
/-- from what an expression gives to what a slot may hold -/
theorem Grow.set {i : Nat} {v : V} (hi : i ∉ own) : Grow P own σ H (σ.set i (some v)) H := ⟨Kp.refl _ _, fun q h => .inl ((LL.set_ne hi).mp h)⟩
theorem Grow.setO {i : Nat} {q : Addr} (hq : H q = none) (k : Kp (AA P) H H') : Grow P own σ H (σ.set i (some (.ref q))) H' := by
  refine ⟨k.weak fun _ h => .inr (.inl h), fun q' h => ?_⟩
  rcases h with h | h | ⟨j, hj, h⟩
  · exact .inl (.inl h)
  · exact .inl (.inr (.inl h))
  · rcases getElem?_set_cases h with ⟨rfl, h2⟩ | ⟨_, h⟩
    · cases h2
      exact .inr hq
    · exact .inl (.inr (.inr ⟨j, hj, h⟩))
theorem Grow.write {q : Addr} {o : HO} (hq : LL P own σ q) : Grow P own σ H σ (upd H q o) := ⟨fun q' u e n => by
  rw [upd_ne (by intro z; subst z; exact n hq)]
  exact e, fun _ h => .inl h⟩
theorem SRel.strong (r : SRel P own σ H ε p) {d : D} {v : V} (rv : Rep P.g (L0 P) H d v) (h : own = [] ∨ d.free = true) : Rep P.g (LL P own σ) H d v := by
  rcases h with rfl | h
  · exact Rep.mono (Kp.refl _ _) (fun q z => .inl (LL.nil.mp z)) d v rv
  · exact Rep.freed (fun q z => r.notTup z) d v h rv
/-- an owned slot gets a new list or dict -/
theorem SRel.setO (r : SRel P own σ H ε p) (r1 : SRel P own σ H' ε p') {i : Nat} {d : D} {q : Addr} (hi : i ∈ own) (hq : H q = none) (m : Mutb H' q) (k : Kp (AA P) H H') (ho : ∀ L, (∀ q', L q' → LL P own σ q' ∨ q' = q) → OwnRep P L H' q d) (hF : ¬ P.F q) :
    SRel P own (σ.set i (some (.ref q))) H' (ε.set i (some d)) p' := by
  have hLL : ∀ q', LL P own (σ.set i (some (.ref q))) q' → LL P own σ q' ∨ q' = q := fun q' h => by
    rcases h with h | h | ⟨j, hj, h⟩
    · exact .inl (.inl h)
    · exact .inl (.inr (.inl h))
    · rcases getElem?_set_cases h with ⟨rfl, h2⟩ | ⟨_, h⟩
      · cases h2
        exact .inr rfl
      · exact .inl (.inr (.inr ⟨j, hj, h⟩))
  have hL : ∀ q', LL P own (σ.set i (some (.ref q))) q' → LL P own σ q' ∨ H q' = none := fun q' h => (hLL q' h).elim .inl fun e => .inr (e ▸ hq)
  have kl : Kp (LL P own σ) H H' := k.weak fun q h => h.LL
  have h0 : P.H0 q = none := by
    cases e : P.H0 q with
    | none => rfl
    | some o =>
      by_cases ha : AA P q
      · exact (r.there q (.inr ha) hq).elim
      · rw [r.keep q o e ha] at hq; cases hq
  have here : ∀ j, j ∈ own → σ[j]? ≠ some (some (.ref q)) := fun j hj e => by
    obtain ⟨q', e', _, m'⟩ := r.ownst j hj _ e
    cases e'
    rcases m' with ⟨_, m'⟩ | ⟨_, m'⟩ | ⟨_, m'⟩ <;> rw [hq] at m' <;> cases m'
  have kd : ∀ j, j ∈ own → ∀ q', σ[j]? = some (some (.ref q')) → H' q' = H q' := fun j hj q' e => by
    obtain ⟨q2, e2, _, m2⟩ := r.ownst j hj _ e
    cases e2
    have na : ¬ AA P q' := fun z => by
      obtain ⟨q2, e2, n2, _⟩ := r.ownst j hj _ e
      cases e2
      exact r.apartA q' z n2
    rcases m2 with ⟨_, m2⟩ | ⟨_, m2⟩ | ⟨_, m2⟩ <;> rw [m2] <;> exact k q' _ m2 na
  refine ⟨by rw [List.length_set, List.length_set]; exact r.len, fun j d' hj e => ?_, fun j d' hj e => ?_, fun j hj w e => ?_, fun j j' q' hj hj' e e' => ?_, r1.pool, r1.keep, r1.there, r1.apart, r1.apartA, fun j hj q' e => ?_⟩
  · rcases getElem?_set_cases e with ⟨rfl, e2⟩ | ⟨ne, e⟩
    · exact (hj hi).elim
    · obtain ⟨w, e1, h⟩ := r.slots j d' hj e
      exact ⟨w, by rw [List.getElem?_set_ne ne]; exact e1, Rep.mono kl hL _ _ h⟩
  · rcases getElem?_set_cases e with ⟨rfl, e2⟩ | ⟨ne, e⟩
    · cases e2
      have hl : i < σ.length := by
        rw [← r.len]
        by_cases z : i < ε.length
        · exact z
        · rw [List.getElem?_eq_none (by rw [List.length_set]; omega)] at *; contradiction
      exact ⟨q, List.getElem?_set_self hl, ho _ hLL⟩
    · obtain ⟨q', e1, h⟩ := r.owned j d' hj e
      exact ⟨q', by rw [List.getElem?_set_ne ne]; exact e1, OwnRep.mono kl hL (kd j hj q' e1) h⟩
  · rcases getElem?_set_cases e with ⟨rfl, e2⟩ | ⟨ne, e⟩
    · cases e2
      exact ⟨q, rfl, h0, m⟩
    · exact r1.ownst j hj w e
  · rcases getElem?_set_cases e with ⟨rfl, e2⟩ | ⟨ne, e⟩
    · rcases getElem?_set_cases e' with ⟨rfl, e3⟩ | ⟨ne', e'⟩
      · rfl
      · cases e2
        exact (here j' hj' e').elim
    · rcases getElem?_set_cases e' with ⟨rfl, e3⟩ | ⟨ne', e'⟩
      · cases e3
        exact (here j hj e).elim
      · exact r.ownne j j' q' hj hj' e e'
  · rcases getElem?_set_cases e with ⟨rfl, e2⟩ | ⟨ne, e⟩
    · cases e2
      exact hF
    · exact r.ownF j hj q' e
/-- an owned list or dict is changed -/
theorem SRel.write (r : SRel P own σ H ε p) {i : Nat} {d : D} {q : Addr} {o : HO} (hi : i ∈ own) (e : σ[i]? = some (some (.ref q))) (m : Mutb (upd H q o) q) (ho : OwnRep P (LL P own σ) (upd H q o) q d) : SRel P own σ (upd H q o) (ε.set i (some d)) p := by
  have hq : LL P own σ q := .inr (.inr ⟨i, hi, e⟩)
  have k : Kp (LL P own σ) H (upd H q o) := fun q' u e' n => by
    rw [upd_ne (by intro z; subst z; exact n hq)]
    exact e'
  obtain ⟨q0, e0, n0, m0⟩ := r.ownst i hi _ e
  cases e0
  have na : ¬ AA P q := fun z => r.apartA q z n0
  refine ⟨by rw [List.length_set]; exact r.len, fun j d' hj e' => ?_, fun j d' hj e' => ?_, fun j hj w e' => ?_, r.ownne, ?_, fun q' u e' n => ?_, fun q' h => ?_, r.apart, r.apartA, r.ownF⟩
  · rcases getElem?_set_cases e' with ⟨rfl, e2⟩ | ⟨ne, e'⟩
    · exact (hj hi).elim
    · obtain ⟨w, e1, h⟩ := r.slots j d' hj e'
      exact ⟨w, e1, Rep.mono k (fun _ h => .inl h) _ _ h⟩
  · rcases getElem?_set_cases e' with ⟨rfl, e2⟩ | ⟨ne, e'⟩
    · cases e2
      exact ⟨q, e, ho⟩
    · obtain ⟨q', e1, h⟩ := r.owned j d' hj e'
      have nq : q' ≠ q := by intro z; subst z; exact ne (r.ownne i j _ hi hj e e1)
      exact ⟨q', e1, OwnRep.mono k (fun _ h => .inl h) (upd_ne nq) h⟩
  · obtain ⟨q', e1, n1, m1⟩ := r.ownst j hj w e'
    refine ⟨q', e1, n1, ?_⟩
    by_cases z : q' = q
    · subst z; exact m
    · exact m1.kp (upd_ne z)
  · have po := r.pool
    unfold PoolOk at po ⊢
    split at po
    · trivial
    · rename_i ea
      obtain ⟨is, e1, h⟩ := po
      refine ⟨is, e1, ?_⟩
      rw [upd_ne (by intro z; subst z; exact na ea)]
      exact h
    · exact po.elim
  · rw [upd_ne (fun z => by rw [z, n0] at e'; cases e')]
    exact r.keep q' u e' n
  · by_cases z : q' = q
    · rw [z, upd_same]; exact fun y => nomatch y
    · rw [upd_ne z]; exact r.there q' h
/-- the pool's numbers are changed -/
theorem SRel.writeP (r : SRel P own σ H ε p) {q : Addr} {is : List Int} (ha : P.a = some q) : SRel P own σ (upd H q (.lst (is.map V.int))) ε (some (is.map D.int)) := by
  have hA : AA P q := ha
  have k : Kp (AA P) H (upd H q (.lst (is.map V.int))) := fun q' u e' n => by
    rw [upd_ne (by intro z; subst z; exact n hA)]
    exact e'
  refine r.step k ?_
  unfold PoolOk
  rw [show P.g.a = some q from ha]
  exact ⟨is, rfl, upd_same⟩
end
section
variable {X : Cx} {W : WX} {own : List Nat} {e a b c : Expr} {es : List Expr} {pos p2 p3 : Pos} {f g h : DEnv → M D} {fs : DEnv → M (List D)} {fb : DEnv → M Bool}
/-- x = e; chk: whether what is stored has to be free of lists (where lists are owned) -/
def sSet (chk : Bool) (i : Nat) (f : DEnv → M D) (ε : DEnv) : M Fl := sx ε (f ε) fun d => if (!chk || d.free) = true then pure (.nx (ε.set i (some d))) else M.fail
theorem chk_or {chk : Bool} {d : D} (hw : own = [] ∨ chk = true) (h : (!chk || d.free) = true) : own = [] ∨ d.free = true := by
  rcases hw with hw | rfl
  · exact .inl hw
  · exact .inr (by simpa using h)
theorem pds_set {i : Nat} {x : Str} (chk : Bool) (hN : X.N.Nodup) (hi : X.N[i]? = some x) (hx : Loc X.env.scope x) (he : PD X W own e f) (ho : i ∉ own := by decide) (hw : own = [] ∨ chk = true := by first | exact .inl rfl | exact .inr rfl) (hs : swapsWith e (some (.Name x p2)) pos.line X.env = pure false := by rfl)
    (hf : X.fn x = true ∨ X.env.scope.names.lookup x = some .local := by first | exact .inl rfl | exact .inr rfl | assumption) : PDS X W own (.Assign [.Name x p2] e pos) (sSet chk i f) := (ps_set hN hi hx he hs hf).imp fun Z σ H ⟨P, ε, p, r, q⟩ => by
  refine tD.sxq (k := fun d ε => if (!chk || d.free) = true then pure (Fl.nx (ε.set i (some d))) else M.fail) r q fun x v H1 p1 k1 r1 rx q1 => ?_
  split at q1
  · rename_i hc
    exact q1 _ H1 (r1.set ho (r1.strong rx (chk_or hw hc))) (Grow.set ho)
  · exact q1.elim
/-- a, b = e1, e2: two names -/
def sPar (chk : Bool) (i j : Nat) (fs : DEnv → M (List D)) (ε : DEnv) : M Fl := sx ε (fs ε) fun ds => match ds with
  | [d, d'] => if ((!chk || d.free) && (!chk || d'.free)) = true then pure (.nx ((ε.set i (some d)).set j (some d'))) else M.fail
  | _ => M.fail
theorem pds_par {i j : Nat} {x y : Str} {px py pt : Pos} {kt k2 pt2} (chk : Bool) (hc : X.calm = true) (hN : X.N.Nodup) (hi : X.N[i]? = some x) (hj : X.N[j]? = some y) (hij : i ≠ j)
    (hx : X.env.scope.names.lookup x = some .local) (hy : X.env.scope.names.lookup y = some .local) (ha : PDA X W own [a, b] fs)
    (hw : swappedStores [.Tuple [.Name x px, .Name y py] kt pt] (.Tuple [a, b] k2 pt2) X.env = pure (some [x, y])) (ho : i ∉ own := by decide) (ho2 : j ∉ own := by decide) (hw2 : own = [] ∨ chk = true := by first | exact .inl rfl | exact .inr rfl)
    (hs : swapsWithSole [.Tuple [.Name x px, .Name y py] kt pt] (.Tuple [a, b] k2 pt2) pos.line X.env = pure false := by rfl) :
    PDS X W own (.Assign [.Tuple [.Name x px, .Name y py] kt pt] (.Tuple [a, b] k2 pt2) pos) (sPar chk i j fs) := (ps_par hc hN hi hj hij hx hy ha hw hs).imp fun Z σ H ⟨P, ε, p, r, q⟩ => by
  refine tDA.sxq (k := fun ds ε => match ds with | [d, d'] => if ((!chk || d.free) && (!chk || d'.free)) = true then pure (Fl.nx ((ε.set i (some d)).set j (some d'))) else M.fail | _ => M.fail) r q fun xs vs H1 p1 k1 r1 rx q1 => ?_
  split at q1
  · split at q1
    · rename_i d d' hc
      rw [Bool.and_eq_true] at hc
      obtain ⟨v, w, rfl, h1, h2⟩ := rx.two
      have r2 := r1.set ho (r1.strong h1 (chk_or hw2 hc.1))
      exact ⟨v, w, rfl, q1 _ H1 (r2.set ho2 (r2.strong h2 (chk_or hw2 hc.2))) ((Grow.set ho).trans (Grow.set ho2))⟩
    · exact q1.elim
  · exact q1.elim
end
end DL

end
section
namespace DL
open PySem PySem.Spec L2

/-! ### a def, its call -/
/-- what a def promises: it gives what m gives -/
def spD (K : PySem.W.Frag) (mg : Str → Option Value) (n : Nat) (nw : Bool) (m : List D → M D) : Sp := fun vs H Q E => ∃ (P : FP K mg) (ds : List D) (p : Pool), vs.length = n ∧ P.H0 = H ∧ (∀ q, L0 P q → H q ≠ none) ∧ (∀ q, P.F q → ¬ AA P q) ∧ PoolOk P.g H p ∧
  Reps P.g (L0 P) H ds vs ∧ Post (m ds p) (fun d p' => ∀ v H', Kp (AA P) H H' → PoolOk P.g H' p' → Rep P.g (L0 P) H' d v → (nw = true → ∃ q, v = .ref q ∧ H q = none) → Q v H')
    (fun c d p' => ∀ cv dx H', Kp (AA P) H H' → PoolOk P.g H' p' → ExR P (L0 P) H' c d cv dx → E cv dx H')
/-- a def at f, called where nothing is shown (guards), keeps it -/
structure FnD (P : Program) (w : World) (K : PySem.W.Frag) (mg : Str → Option Value) (base : Heap) (k : Nat) (f : Addr) (fd : FuncData) (ps : List Str) (nw : Bool) (m : List D → M D) : Prop where
  run : ∀ (A : Around) (outer : List PySem.Env) (s : Shared) (H : Hp) (args : Args) (us : List Value) (vs : List V) (Q : VK) (E : XK), Room k A → A.guards = some [] → Env0 P w K mg base A outer s H → BindsTo s fd args (ps.zip us) → Vals vs us →
    spD K mg ps.length nw m vs H Q E → codeAny (model P w) A (.call (.ref f) args) (CR (L2.CX P w) outer P w H s Q E) s
theorem FnD.mono {P : Program} {w : World} {K : PySem.W.Frag} {mg : Str → Option Value} {base : Heap} {j k : Nat} {f : Addr} {fd : FuncData} {ps : List Str} {nw : Bool} {m : List D → M D} (F : FnD P w K mg base j f fd ps nw m) (h : j ≤ k) : FnD P w K mg base k f fd ps nw m :=
  ⟨fun A outer s H args us vs Q E hr => F.run A outer s H args us vs Q E (hr.mono h)⟩
theorem FnD.val {P : Program} {w : World} {K : PySem.W.Frag} {mg : Str → Option Value} {base : Heap} {k : Nat} {f : Addr} {fd : FuncData} {ps : List Str} {m : List D → M D} (F : FnD P w K mg base k f fd ps true m) : FnD P w K mg base k f fd ps false m :=
  ⟨fun A outer s H args us vs Q E hr hg he hb rv ⟨P, ds, p, h1, h2, h3, h4, h5, h6, h7⟩ => F.run A outer s H args us vs Q E hr hg he hb rv
    ⟨P, ds, p, h1, h2, h3, h4, h5, h6, h7.mono (fun d p' z v H' a b c _ => z v H' a b c fun y => by cases y) fun _ _ _ z => z⟩⟩

/-- the body's end as the def's answer -/
def runB (b : DEnv → M Fl) (n : Nat) (ds : List D) : M D := fun p => match b (ds.map some ++ List.replicate (n - ds.length) none) p with
  | .ok (.rt d) p' => .ok d p'
  | .ok (.nx _) p' => .ok .non p'
  | .ok (.xc c d _) p' => .ex c d p'
  | _ => .bad
theorem reps_start {g : G} {L : Addr → Prop} {H : Hp} {ds : List D} {vs : List V} (r : Reps g L H ds vs) {i n : Nat} {d : D} (e : (ds.map some ++ List.replicate (n - ds.length) none)[i]? = some (some d)) : ∃ v, vs[i]? = some v ∧ Rep g L H d v := by
  by_cases hi : i < ds.length
  · rw [List.getElem?_append_left (by simpa using hi), List.getElem?_map] at e
    cases z : ds[i]? with
    | none => rw [z] at e; cases e
    | some d' =>
      rw [z] at e
      cases e
      exact r.get z
  · rw [List.getElem?_append_right (by rw [List.length_map]; omega)] at e
    rw [List.getElem?_replicate] at e
    split at e <;> cases e
theorem start_get {N : List Str} {vs : List V} {i : Nat} : ∀ {v : V}, (L2.start N vs)[i]? = some (some v) → vs[i]? = some v := by
  intro v e
  unfold L2.start at e
  by_cases hi : i < vs.length
  · rw [List.getElem?_append_left (by simpa using hi), List.getElem?_map] at e
    cases z : vs[i]? with
    | none => rw [z] at e; cases e
    | some d' => rw [z] at e; cases e; rfl
  · rw [List.getElem?_append_right (by rw [List.length_map]; omega), List.getElem?_replicate] at e
    split at e <;> cases e
theorem start_of {N : List Str} {vs : List V} {i : Nat} {v : V} (e : vs[i]? = some v) : (L2.start N vs)[i]? = some (some v) := by
  have hi : i < vs.length := (List.getElem?_eq_some_iff.mp e).1
  unfold L2.start
  rw [List.getElem?_append_left (by simpa using hi), List.getElem?_map, e]
  rfl
section
variable {Pr : Program} {w : World} {K : PySem.W.Frag} {mg : Str → Option Value} {base : Heap}
theorem srel_start {P : FP K mg} {own : List Nat} {N : List Str} {ds : List D} {vs : List V} {p : Pool} (ho : ∀ i, i ∈ own → vs.length ≤ i) (hN : vs.length ≤ N.length) (hL : ∀ q, L0 P q → P.H0 q ≠ none) (hap : ∀ q, P.F q → ¬ AA P q) (po : PoolOk P.g P.H0 p) (r : Reps P.g (L0 P) P.H0 ds vs) :
    SRel P own (L2.start N vs) P.H0 (ds.map some ++ List.replicate (N.length - ds.length) none) p := by
  have none_own : ∀ i, i ∈ own → ∀ v, (L2.start N vs)[i]? ≠ some (some v) := fun i hi v e => by
    have h := ho i hi
    have h2 := (List.getElem?_eq_some_iff.mp (start_get e)).1
    omega
  have hLL : ∀ q, LL P own (L2.start N vs) q → L0 P q := fun q h => by
    rcases h with h | h | ⟨i, hi, h⟩
    · exact .inl h
    · exact .inr h
    · exact (none_own i hi _ h).elim
  have hl := r.length
  refine ⟨?_, fun i d _ e => ?_, fun i d hi e => ?_, fun i hi v e => (none_own i hi v e).elim, fun i j q hi hj e e' => (none_own i hi _ e).elim, po, Kp.refl _ _, hL, hap, fun q h => hL q (.inr h), fun i hi q e => (none_own i hi _ e).elim⟩
  · unfold L2.start
    simp only [List.length_append, List.length_map, List.length_replicate]
    omega
  · obtain ⟨v, e1, rv⟩ := reps_start r e
    exact ⟨v, start_of e1, Rep.mono (Kp.refl _ _) (fun q h => .inl (hLL q h)) d v rv⟩
  · obtain ⟨v, e1, rv⟩ := reps_start r e
    exact (none_own i hi v (start_of e1)).elim
/-- THE RULE for a def, by its body's function of data -/
theorem fnD_of {x qual : Str} {st : Stmt} {f : Addr} {fd : FuncData} {N ps : List Str} {k : Nat} {bm : DEnv → M Fl} {own : List Nat} (F : Fun K x qual st f fd) (S : FnScope N ps (defScope st)) (hown : ∀ i, i ∈ own → ps.length ≤ i)
    (hb : ∀ (cd : Value) (A : Around) (outer : List PySem.Env) (s : Shared) (H : Hp) (E : XK), Room k (A.deeper (PyProof.Rows.envOfC qual (defScope st) s.heap.objs.size f cd)) → A.guards = some [] →
      PDSs (cxOf (L2.CX Pr w) Pr w K mg base N qual (defScope st) f cd A outer s H E) (fun cls d _ H' => E cls d H') own (defBody st) bm) :
    FnD Pr w K mg base (k + 1) f fd ps false (runB bm N.length) := by
  obtain ⟨oc, od, kV, doc, pm, an, cd, ct, osl, rfl, lk, hcd⟩ := F.ex
  refine ⟨fun A outer s H args us vs Q E hr hgd e0 hbind rv hsp => ?_⟩
  obtain ⟨P, ds, p, hlen, rfl, hL, hap, po, rds, post⟩ := hsp
  have inK : K.In s.heap := e0.mod.kin.keeps fun b o z => (e0.bs b o z).1
  have noLim : s.heap.NoLimit := e0.mod.nolimit.keeps fun b o z => (e0.bs b o z).1
  have hN : vs.length ≤ N.length := by
    have := congrArg List.length S.pre
    rw [List.length_take] at this
    omega
  have rel := srel_start (own := own) (N := N) (fun i hi => by have := hown i hi; omega) hN hL hap po rds
  have kinds : ∀ y ∈ ps.zip us, (defScope st).names.lookup y.1 = some .local ∨ ((defScope st).names.lookup y.1 = some .cell ∧ ((cellsFrom (s.heap.objs.size + 1) (defScope st).names []).lookup y.1).isSome = true) := by
    rintro ⟨nm, u⟩ hy
    exact (S.par nm (List.of_mem_zip hy).1).imp id fun z => ⟨z, PySem.W.cellsFrom_some _ _ _ (.inl z)⟩
  refine codeAny_call_function hr.depth (inK _ _ lk) rfl S.co S.gen rfl (PySem.W.codeRec_of inK hcd) (hbind _ _ _ _ ?_)
  refine wpAny_newFunctionEnv_cells S.kind kinds fun env hen s1 hin => ?_
  subst hen
  refine ⟨noLim.keeps hin.toInCall.keep, codeAny_func ?_⟩
  have J : Inv (cxOf (L2.CX Pr w) Pr w K mg base N qual (defScope st) f cd A outer s P.H0 E) [] (L2.start N vs) P.H0 s1 := inv_start S hr.hd e0 hlen rv hin
  have body := hb cd A outer s P.H0 E (hr.deeper _) hgd
  have reading : tS K mg (fun cls d _ H' => E cls d H') own bm { nx := fun _ H' => Q .non H', rt := Q } (L2.start N vs) P.H0 := by
    refine ⟨P, _, p, rel, ?_⟩
    unfold runB at post
    cases eb : bm (ds.map some ++ List.replicate (N.length - ds.length) none) p with
    | bad => rw [eb] at post; exact post.elim
    | ex c d p' => rw [eb] at post; exact post.elim
    | ok fl p' =>
      rw [eb] at post
      cases fl with
      | nx ε' => exact fun σ' H' r' _ => post .non H' r'.keep r'.pool (by unfold Rep; rfl) fun y => by cases y
      | rt d => exact fun v H' k1 po1 rv1 => post v H' k1 po1 rv1 fun y => by cases y
      | bk ε' => exact post.elim
      | ct ε' => exact post.elim
      | xc c d ε' => exact fun σ' cv dx H' r' _ ex => post cv dx H' r'.keep r'.pool ex
  refine wpAny_mono (body.run [] s1 (L2.start N vs) P.H0 _ J reading) (fun fl s' hs => ?_) fun _ _ z => z
  cases fl with
  | ret u =>
    obtain ⟨v, σ', H', J', rv', q⟩ := hs
    exact ⟨v, H', J'.os, J'.bare, J'.base, J'.hok, rv', q⟩
  | next =>
    obtain ⟨σ', H', J', q⟩ := hs
    exact ⟨.non, H', J'.os, J'.bare, J'.base, J'.hok, rfl, q⟩
  | brk =>
    obtain ⟨_, _, _, q⟩ := hs
    exact q.elim
  | cont =>
    obtain ⟨_, _, _, q⟩ := hs
    exact q.elim
end
section
variable {X : Cx} {W : WX} {own : List Nat} {e a b c : Expr} {es : List Expr} {pos p p2 p3 : Pos} {fs : DEnv → M (List D)} {k : Nat} {f : Addr} {fd : FuncData} {ps : List Str} {nw : Bool} {m : List D → M D} {x : Str}
theorem run_fnD {pins : List (Addr × Obj)} {σ : St} {H : Hp} {s : Shared} {Q : VK} {us : List Value} {vs : List V} (F : FnD X.prog X.w X.K X.mg X.base k f fd ps nw m) (hr : Room k X.A) (hgd : X.A.guards = some []) (hb : Binds X.K fd ps []) (tk : Takes X W)
    (I : Inv X pins σ H s) (rv : Vals vs us) (h : spD X.K X.mg ps.length nw m vs H Q (WE W σ)) : wpAny (model X.prog X.w) X.A (call (.ref f) us) (EP X pins σ Q) X.xe s := by
  have hl : us.length = ps.length := by
    obtain ⟨_, _, _, hl, _⟩ := h
    rw [← rv.length]
    exact hl
  have bd := hb s us I.kIn (by rw [List.append_nil]; exact hl)
  rw [List.append_nil] at bd
  refine wpAny_call (codeAny_mono (F.run X.A X.stack s H ⟨us, []⟩ us vs Q (WE W σ) hr hgd I.env0 bd rv h) fun r s' z => ?_)
  cases r with
  | error er => exact passAt tk σ pins H s er s' I z
  | ok fl =>
    cases fl with
    | ret u => exact I.after z
    | next => exact z.elim
    | brk => exact z.elim
    | cont => exact z.elim
/-- what a caller has to know of a def -/
structure Cal (X : Cx) (k : Nat) (x : Str) (f : Addr) (fd : FuncData) (ps : List Str) (nw : Bool) (m : List D → M D) : Prop where
  fn : FnD X.prog X.w X.K X.mg X.base k f fd ps nw m
  mg : X.mg x = some (.ref f)
  kp : PySem.W.keepIn X.K (.ref f) = true
  bd : Binds X.K fd ps []
def dCall (n : Nat) (m : List D → M D) (fs : DEnv → M (List D)) (ε : DEnv) : M D := fs ε >>= fun ds => if ds.length = n then m ds else M.fail
theorem spD_of {P : FP X.K X.mg} {own : List Nat} {σ : St} {H1 : Hp} {ε : DEnv} {p1 : Pool} {ds : List D} {vs : List V} {Q : VK} (r1 : SRel P own σ H1 ε p1) (rds : Reps P.g (L0 P) H1 ds vs) (hl : ds.length = ps.length) (q1 : Post (m ds p1) (EK P H1 Q) (XKx P σ H1 W)) :
    spD X.K X.mg ps.length nw m vs H1 Q (WE W σ) :=
  ⟨{ P with H0 := H1 }, ds, p1, by rw [rds.length, hl], rfl, r1.there, r1.apart, r1.pool, rds, q1.mono (fun d p' z v H' a b c _ => z v H' a b c) fun c d p' z => z⟩
theorem pd_call (C : Cal X k x f fd ps nw m) (hr : Room k X.A) (hgd : X.A.guards = some []) (tk : Takes X W) (ha : PDA X W own (e :: es) fs) (hg : Gl X x := by rfl) (hdb : (x == ("__debug__" : Str)) = false := by decide)
    (he : starEach (e :: es) X.env = (false, eval e X.env) :: starEach es X.env := by rfl) (hpl : (backTo pos (starEach es X.env)).any (·.1) = false := by rfl) : PD X W own (.Call (.Name x p) (e :: es) [] pos) (dCall ps.length m fs) := by
  refine ⟨fun pins s σ H Q I ⟨P, ε, p, rel, q⟩ => ?_⟩
  have rd : tDA X.K X.mg W own fs σ H (fun vs H1 => spD X.K X.mg ps.length nw m vs H1 Q (WE W σ)) := by
    refine tDA.seq (k := fun ds _ => if ds.length = ps.length then m ds else M.fail) rel q fun ds vs H1 p1 k1 r1 rds q1 => ?_
    split at q1
    · rename_i hl
      exact spD_of r1 rds hl (q1.mono (fun _ _ z => z.shift k1) fun _ _ _ z => z)
    · exact q1.elim
  refine wpAny_Call_Name_kw (ld_glob I hg C.mg ?_ hdb)
  refine PySem.W.callWith_K (h₀ := X.base) I.ok.mod.kin C.kp (thn (ha.run pos pins s σ H _ I rd) fun us s1 ⟨vs, H1, I1, rv, z⟩ => ⟨I1.kIn, ?_⟩) he hpl
  exact run_fnD C.fn hr hgd C.bd tk I1 rv z
theorem pd_call0 (C : Cal X k x f fd ps nw m) (hr : Room k X.A) (hgd : X.A.guards = some []) (tk : Takes X W) (hg : Gl X x := by rfl) (hdb : (x == ("__debug__" : Str)) = false := by decide) : PD X W own (.Call (.Name x p) [] [] pos) (dCall ps.length m dNil) := by
  refine ⟨fun pins s σ H Q I ⟨P, ε, p, rel, q⟩ => ?_⟩
  refine wpAny_Call_Name_kw (ld_glob I hg C.mg ?_ hdb)
  refine PySem.W.callWith_K0 I.kIn C.kp (run_fnD (us := []) (vs := []) C.fn hr hgd C.bd tk I .nil ?_)
  have q' : Post ((if ([] : List D).length = ps.length then m [] else M.fail) p) (EK P H Q) (XKx P σ H W) := q
  split at q'
  · rename_i hl
    exact spD_of rel Reps.nil hl q'
  · exact q'.elim
end
end DL

end
section
namespace DL
open PySem PySem.Spec L2

/-! ### targets -/
abbrev Pat := D → DEnv → Option DEnv
def pN (chk : Bool) (i : Nat) : Pat := fun d ε => if (!chk || d.free) = true then some (ε.set i (some d)) else none
def pAll : List Pat → List D → DEnv → Option DEnv
  | [], [], ε => some ε
  | t :: ts, d :: ds, ε => (t d ε).bind fun ε' => pAll ts ds ε'
  | _, _, _ => none
def pT (ts : List Pat) : Pat := fun d ε => match d with
  | .tup ds => pAll ts ds ε
  | _ => none
/-- the slots at ts may have changed -/
def Ch (ts : List Nat) (σ σ' : St) : Prop := σ'.length = σ.length ∧ ∀ i, i ∉ ts → σ'[i]? = σ[i]?
theorem Ch.refl {ts : List Nat} {σ : St} : Ch ts σ σ := ⟨rfl, fun _ _ => rfl⟩
theorem Ch.trans {ts us : List Nat} {σ σ1 σ2 : St} (a : Ch ts σ σ1) (b : Ch us σ1 σ2) : Ch (ts ++ us) σ σ2 := by
  refine ⟨b.1.trans a.1, fun i hi => ?_⟩
  rw [List.mem_append, not_or] at hi
  exact (b.2 i hi.2).trans (a.2 i hi.1)
section
variable {K : PySem.W.Frag} {mg : Str → Option Value}
def gD (K : PySem.W.Frag) (mg : Str → Option Value) (own ts : List Nat) (t : Pat) : TG := fun v σ H Q => ∃ (P : FP K mg) (ε : DEnv) (p : Pool) (d : D) (ε' : DEnv), SRel P own σ H ε p ∧ Rep P.g (L0 P) H d v ∧ t d ε = some ε' ∧
  ∀ σ', SRel P own σ' H ε' p → Grow P own σ H σ' H → Ch ts σ σ' → Q σ' H
def gsD (K : PySem.W.Frag) (mg : Str → Option Value) (own ts : List Nat) (t : List Pat) : TGs := fun vs σ H Q => ∃ (P : FP K mg) (ε : DEnv) (p : Pool) (ds : List D) (ε' : DEnv), SRel P own σ H ε p ∧ Reps P.g (L0 P) H ds vs ∧ pAll t ds ε = some ε' ∧
  ∀ σ', SRel P own σ' H ε' p → Grow P own σ H σ' H → Ch ts σ σ' → Q σ' H
end
section
variable {X : Cx} {W : WX} {own ts us : List Nat} {e a b c : Expr} {es : List Expr} {pos p2 : Pos} {t : Pat} {tt : List Pat}
abbrev PDG (X : Cx) (own ts : List Nat) (e : Expr) (t : Pat) : Prop := PG X e (gD X.K X.mg own ts t)
abbrev PDGs (X : Cx) (own ts : List Nat) (es : List Expr) (t : List Pat) : Prop := PGs X es (gsD X.K X.mg own ts t)
theorem _root_.L2.PG.imp {e : Expr} {t u : TG} (h : PG X e t) (i : ∀ v σ H Q, u v σ H Q → t v σ H Q) : PG X e u := ⟨fun pins s σ H v w Q I r q => h.run pins s σ H v w Q I r (i v σ H Q q)⟩
theorem _root_.L2.PGs.imp {e : List Expr} {t u : TGs} (h : PGs X e t) (i : ∀ v σ H Q, u v σ H Q → t v σ H Q) : PGs X e u := ⟨fun pins s σ H v w Q I r q => h.run pins s σ H v w Q I r (i v σ H Q q)⟩
theorem pdg_name {i : Nat} {x : Str} (chk : Bool) (hN : X.N.Nodup) (hi : X.N[i]? = some x) (hx : Loc X.env.scope x) (ho : i ∉ own := by decide) (hw : own = [] ∨ chk = true := by first | exact .inl rfl | exact .inr rfl)
    (hf : X.fn x = true ∨ X.env.scope.names.lookup x = some .local := by first | exact .inl rfl | exact .inr rfl | assumption) : PDG X own [i] (.Name x pos) (pN chk i) := (pg_name hN hi hx hf).imp fun v σ H Q ⟨P, ε, p, d, ε', r, rv, e, q⟩ => by
  unfold pN at e
  split at e
  · rename_i hc
    cases e
    refine q _ (r.set ho (r.strong rv (chk_or hw hc))) (Grow.set ho) ⟨List.length_set, fun j hj => ?_⟩
    rw [List.getElem?_set_ne]
    intro z
    exact hj (by rw [z]; exact List.mem_cons_self)
  · cases e
theorem pdgs_nil : PDGs X own [] [] [] := pgs_nil.imp fun vs σ H Q ⟨P, ε, p, ds, ε', r, rv, e, q⟩ => by
  cases ds with
  | cons d ds => cases e
  | nil =>
    cases e
    unfold Reps at rv
    exact ⟨rv, q σ r Grow.refl Ch.refl⟩
theorem pdgs_cons (h1 : PDG X own ts e t) (h2 : PDGs X own us es tt) (hs : (assignEach (e :: es) X.env).map (·.2) = assign e X.env :: (assignEach es X.env).map (·.2) := by rfl) : PDGs X own (ts ++ us) (e :: es) (t :: tt) := (pgs_cons h1 h2 hs).imp fun vs σ H Q ⟨P, ε, p, ds, ε', r, rv, e, q⟩ => by
  cases ds with
  | nil => cases e
  | cons d ds =>
    unfold Reps at rv
    obtain ⟨v, vr, rfl, rd, rds⟩ := rv
    unfold pAll at e
    cases e1 : t d ε with
    | none => rw [e1] at e; cases e
    | some ε1 =>
      rw [e1] at e
      refine ⟨v, vr, rfl, P, ε, p, d, ε1, r, rd, e1, fun σ1 r1 g1 c1 => ?_⟩
      exact ⟨P, ε1, p, ds, ε', r1, rds, e, fun σ2 r2 g2 c2 => q σ2 r2 (g1.trans g2) (c1.trans c2)⟩
theorem pAll_length : ∀ {tt : List Pat} {ds : List D} {ε ε' : DEnv}, pAll tt ds ε = some ε' → ds.length = tt.length
  | [], [], _, _, _ => rfl
  | t :: ts, d :: ds, ε, ε', e => by
    unfold pAll at e
    cases e1 : t d ε with
    | none => rw [e1] at e; cases e
    | some ε1 =>
      rw [e1] at e
      rw [List.length_cons, List.length_cons, pAll_length e]
  | [], _ :: _, _, _, e => by cases e
  | _ :: _, [], _, _, e => by cases e
theorem pdg_tup {k : Nat} (hc : X.calm = true) (h : PDGs X own ts es tt) (hn : (assignEach es X.env).length = tt.length := by rfl) (hst : (assignEach es X.env).findIdx? (·.1) = none := by rfl) : PDG X own ts (.Tuple es k pos) (pT tt) :=
  (pg_tup hc h (n := tt.length) hn hst).imp fun v σ H Q ⟨P, ε, p, d, ε', r, rv, e, q⟩ => by
  unfold pT at e
  split at e
  · rename_i ds
    unfold Rep at rv
    obtain ⟨y, vs, rfl, ta, rs⟩ := rv
    exact ⟨y, vs, rfl, ta.sq, by rw [rs.length, pAll_length e], P, ε, p, ds, ε', r, rs, e, q⟩
  · cases e
/-- target = e -/
def sAsg (t : Pat) (f : DEnv → M D) (ε : DEnv) : M Fl := sx ε (f ε) fun d => liftO (t d ε) >>= fun ε' => pure (.nx ε')
theorem pds_asg {tg : Expr} {f : DEnv → M D} (he : PD X W own e f) (hg : PDG X own ts tg t) (hs : swapsWithSole [tg] e pos.line X.env = pure false := by rfl) (hw : swappedStores [tg] e X.env = pure none := by rfl)
    (h1 : (assignEach [tg] X.env).map (·.2) = [assign tg X.env] := by rfl) : PDS X W own (.Assign [tg] e pos) (sAsg t f) := (ps_asg he hg hs hw h1).imp fun Z σ H ⟨P, ε, p, r, q⟩ => by
  refine tD.sxq (k := fun d ε => liftO (t d ε) >>= fun ε' => pure (Fl.nx ε')) r q fun x v H1 p1 k1 r1 rx q1 => ?_
  obtain ⟨ε', e, q1⟩ := Post.lift (Post.thn q1)
  exact ⟨P, ε, p1, x, ε', r1, rx, e, fun σ' r' g' _ => q1 σ' H1 r' g'⟩
end

/-! ### what is walked -/
section
variable {K : PySem.W.Frag} {mg : Str → Option Value}
/-- ds is walked, from H1 on, as long as what is tracked outside M stays -/
def ItOk (P : FP K mg) (M : Addr → Prop) (J : It) (ds : List D) (H1 : Hp) : Prop := ∃ (Gd : Hp → Prop) (Y : Nat → Hp → V → Hp → Prop), Walk J ds.length Gd Y ∧ (∀ H2, Kp M H1 H2 → Gd H2) ∧
  ∀ i H2 x H3 (L' : Addr → Prop), i < ds.length → Kp M H1 H2 → (∀ q, L' q → L0 P q ∨ H1 q = none) → (∀ q, L' q → H2 q ≠ none) → Y i H2 x H3 → Same H2 H3 ∧ ∃ d, ds[i]? = some d ∧ Rep P.g L' H3 d x
/-- what may change while it is walked: in a comprehension the pool alone, in a for the owned lists, too -/
def MM (P : FP K mg) (own : List Nat) (σ : St) (st : Bool) : Addr → Prop := if st then LL P own σ else AA P
def iD (K : PySem.W.Frag) (mg : Str → Option Value) (W : WX) (own : List Nat) (st : Bool) (f : DEnv → M (List D)) : TI := fun σ H R => ∃ (P : FP K mg) (ε : DEnv) (p : Pool), SRel P own σ H ε p ∧ Post (f ε p)
  (fun ds p' => ∀ J H', Kp (AA P) H H' → PoolOk P.g H' p' → ItOk P (MM P own σ st) J ds H' → R J H') (XKx P σ H W)
abbrev PDI (X : Cx) (W : WX) (own : List Nat) (st : Bool) (tg iter : Expr) (f : DEnv → M (List D)) : Prop := PI X tg iter (iD X.K X.mg W own st f)
theorem _root_.L2.PI.imp {X : Cx} {tg e : Expr} {t u : TI} (h : PI X tg e t) (i : ∀ σ H R, u σ H R → t σ H R) : PI X tg e u := ⟨fun pins s σ H R I q => h.run pins s σ H R I (i σ H R q)⟩
theorem MM.AA {P : FP K mg} {own : List Nat} {σ : St} {st : Bool} {q : Addr} (h : AA P q) : MM P own σ st q := by
  unfold MM
  split
  · exact h.LL
  · exact h
theorem MM.toL0 {P : FP K mg} {σ : St} {st : Bool} {q : Addr} (h : MM P [] σ st q) : L0 P q := by
  unfold MM at h
  split at h
  · exact LL.nil.mp h
  · exact .inr h
theorem MM.weak {P : FP K mg} {own : List Nat} {σ : St} {q : Addr} (h : MM P own σ false q) : L0 P q := .inr h
theorem lt_get {α : Type} {l : List α} {i : Nat} (h : i < l.length) : ∃ x, l[i]? = some x := ⟨l[i], List.getElem?_eq_getElem h⟩
theorem itok_list {P : FP K mg} {M : Addr → Prop} {H1 : Hp} {q : Addr} {vs : List V} {ds : List D} (hM : ∀ q, M q → L0 P q) (ta : RolAt K (L0 P) H1 q vs) (rs : Reps P.g (L0 P) H1 ds vs) : ItOk P M (Itl K q) ds H1 := by
  have kl : ∀ H2, Kp M H1 H2 → Kp (L0 P) H1 H2 := fun H2 k => k.weak hM
  refine ⟨_, _, by rw [← rs.length]; exact walk_list, fun H2 k => (ta.mono (kl H2 k) (fun _ h => .inl h)).sq, fun i H2 x H3 L' hi k hl _ y => ?_⟩
  obtain ⟨rfl, y⟩ := y
  refine ⟨Same.refl _, ?_⟩
  obtain ⟨d, ed⟩ := lt_get hi
  obtain ⟨v, ev, rv⟩ := rs.get ed
  have exv : v = x := Option.some.inj (ev.symm.trans y)
  rw [← exv]
  exact ⟨d, ed, Rep.mono (kl _ k) hl d v rv⟩
theorem itok_tup {P : FP K mg} {M : Addr → Prop} {H1 : Hp} {q : Addr} {vs : List V} {ds : List D} (hM : ∀ q, M q → L0 P q ∨ ∀ vs, ¬ Rd H1 q (.tup vs)) (ta : TupAt K (L0 P) H1 q vs) (rs : Reps P.g (L0 P) H1 ds vs) (hf : (∀ q, M q → L0 P q) ∨ D.frees ds = true) : ItOk P M (Itt K q) ds H1 := by
  refine ⟨_, _, by rw [← rs.length]; exact walk_tup, fun H2 k => ?_, fun i H2 x H3 L' hi k hl _ y => ?_⟩
  · have ta' : TupAt K M H1 q vs := by
      rcases ta with ⟨n, t⟩ | t
      · exact .inl ⟨fun z => (hM q z).elim n fun y => y vs t, t⟩
      · exact .inr t
    exact (ta'.mono k (fun _ h => .inl h)).sq
  · obtain ⟨rfl, y⟩ := y
    refine ⟨Same.refl _, ?_⟩
    obtain ⟨d, ed⟩ := lt_get hi
    obtain ⟨v, ev, rv⟩ := rs.get ed
    have exv : v = x := Option.some.inj (ev.symm.trans y)
    rw [← exv]
    refine ⟨d, ed, ?_⟩
    rcases hf with hf | hf
    · exact Rep.mono (k.weak hf) hl d v rv
    · have fd : d.free = true := by
        have key : ∀ {l : List D} {j : Nat}, D.frees l = true → l[j]? = some d → d.free = true := by
          intro l
          induction l with
          | nil => intro j _ e; simp at e
          | cons x xs ih =>
            intro j f e
            unfold D.frees at f
            rw [Bool.and_eq_true] at f
            cases j with
            | zero => simp at e; rw [← e]; exact f.1
            | succ j => exact ih f.2 (by simpa using e)
        exact key hf ed
      have r1 : Rep P.g (fun q => L0 P q ∨ M q) H1 d v := Rep.freed (fun q h => h.elim .inl fun h => hM q h) d v fd rv
      exact Rep.mono (k.weak fun q h => .inr h) (fun q h => (hl q h).imp .inl id) d v r1
end
section
variable {X : Cx} {W : WX} {own : List Nat} {e a b c : Expr} {es : List Expr} {pos p p2 : Pos} {f g : DEnv → M D} {fs : DEnv → M (List D)} {tg : Expr}
/-- a list or a tuple -/
def tSeqV (K : PySem.W.Frag) (tl : TE) : TI := fun σ H R => tl σ H fun x H1 => ∃ a, x = .ref a ∧ ((∃ xs, SqL K H1 a xs ∧ R (Itl K a) H1) ∨ ∃ xs, SqT K H1 a xs ∧ R (Itt K a) H1)
theorem pi_seqV {l : Expr} {tl : TE} (hl : PE X l tl) : PI X tg l (tSeqV X.K tl) := by
  refine ⟨fun pins s σ H R I h => ?_⟩
  refine thn (hl.run pins s σ H _ I h) fun v s1 ⟨x, H1, I1, r1, a, ex, q1⟩ => ?_
  subst ex
  cases r1
  have fresh : ∀ b ∈ [s1.heap.objs.size], FpOk X pins H1 b := fun b hb => by
    obtain rfl : b = s1.heap.objs.size := by simpa using hb
    exact I1.fpOk (Nat.le_refl _) (I1.hok.fresh (Nat.le_refl _))
  rcases q1 with ⟨xs, hs, q⟩ | ⟨xs, hs, q⟩
  · obtain ⟨its, rv, pl, _⟩ := I1.list hs
    refine wpAny_pyIter_list pl.isList ⟨s1.heap.objs.size, [s1.heap.objs.size], _, _, H1, rfl, I1.kept (t' := s1.toks) (fun b o e => Heap.get?_push_of_some _ e), turn_list a _, ⟨_, Heap.get?_push_size _ rfl, rfl, rfl⟩, fresh, q⟩
  · obtain ⟨its, rv, pl, _⟩ := I1.tuple hs
    refine wpAny_pyIter_tuple (show s1.heap.IsTuple a its.toArray from pl) ⟨s1.heap.objs.size, [s1.heap.objs.size], _, _, H1, rfl, I1.kept (t' := s1.toks) (fun b o e => Heap.get?_push_of_some _ e), turn_tuple a _, ⟨_, Heap.get?_push_size _ rfl, rfl, rfl⟩, fresh, q⟩
end
end DL

end
section
namespace DL
open PySem PySem.Spec L2

def seqO : D → Option (List D)
  | .tup ds => some ds
  | .lst ds => some ds
  | .rol ds => some ds
  | _ => none
/-- what is walked: a list or a tuple -/
def iSeq (f : DEnv → M D) (ε : DEnv) : M (List D) := f ε >>= fun d => liftO (seqO d)
def asI1 : List D → Option Int
  | [.int i] => some i
  | _ => none
def asI2 : List D → Option (Int × Int)
  | [.int i, .int j] => some (i, j)
  | _ => none
def rngL (lo : Int) (n : Nat) : List D := (List.range n).map fun i => .int (lo + (i : Nat))
def rng1 (ds : List D) : Option (List D) := (asI1 ds).bind fun j => if -(2 ^ 62) ≤ j ∧ j < 2 ^ 62 then some (rngL 0 j.toNat) else none
def rng2 (ds : List D) : Option (List D) := (asI2 ds).bind fun (i, j) => if -(2 ^ 62) ≤ i ∧ i < 2 ^ 62 ∧ -(2 ^ 62) ≤ j ∧ j < 2 ^ 62 then some (rngL i (j - i).toNat) else none
def iO (o : List D → Option (List D)) (fs : DEnv → M (List D)) (ε : DEnv) : M (List D) := fs ε >>= fun ds => liftO (o ds)
section
variable {K : PySem.W.Frag} {mg : Str → Option Value}
theorem itok_range {P : FP K mg} {Mm : Addr → Prop} {H1 : Hp} {lo : Int} {n : Nat} : ItOk P Mm (Itr lo n) (rngL lo n) H1 := by
  refine ⟨_, _, by rw [show (rngL lo n).length = n by simp [rngL]]; exact walk_range, fun _ _ => trivial, fun i H2 x H3 L' hi _ _ _ y => ?_⟩
  obtain ⟨rfl, rfl⟩ := y
  refine ⟨Same.refl _, .int (lo + (i : Nat)), ?_, by unfold Rep; rfl⟩
  have hn : i < n := by simpa [rngL] using hi
  simp [rngL, hn]
end
section
variable {X : Cx} {W : WX} {own : List Nat} {e a b c : Expr} {es : List Expr} {pos p p2 : Pos} {f g : DEnv → M D} {fs : DEnv → M (List D)} {tg : Expr} {st : Bool}
theorem tD.iq {K : PySem.W.Frag} {mg : Str → Option Value} {f : DEnv → M D} {k : D → DEnv → M (List D)} {σ : St} {H : Hp} {R : It → Hp → Prop} {T : VK} {P : FP K mg} {ε : DEnv} {p : Pool}
    (r : SRel P own σ H ε p) (h : Post ((f ε >>= fun x => k x ε) p) (fun ds p' => ∀ J H', Kp (AA P) H H' → PoolOk P.g H' p' → ItOk P (MM P own σ st) J ds H' → R J H') (XKx P σ H W))
    (n : ∀ x v H1 p1, Kp (AA P) H H1 → SRel P own σ H1 ε p1 → Rep P.g (L0 P) H1 x v → Post (k x ε p1) (fun ds p' => ∀ J H', Kp (AA P) H1 H' → PoolOk P.g H' p' → ItOk P (MM P own σ st) J ds H' → R J H') (XKx P σ H1 W) → T v H1) : tD K mg W own f σ H T :=
  tD.seq (k := k) r h fun x v H1 p1 k1 r1 rv q1 => n x v H1 p1 k1 r1 rv (q1.mono (fun ds p' z J H' k' => z J H' (k1.trans k')) fun _ _ _ z => z)
theorem tDA.iq {K : PySem.W.Frag} {mg : Str → Option Value} {f : DEnv → M (List D)} {k : List D → DEnv → M (List D)} {σ : St} {H : Hp} {R : It → Hp → Prop} {T : List V → Hp → Prop} {P : FP K mg} {ε : DEnv} {p : Pool}
    (r : SRel P own σ H ε p) (h : Post ((f ε >>= fun x => k x ε) p) (fun ds p' => ∀ J H', Kp (AA P) H H' → PoolOk P.g H' p' → ItOk P (MM P own σ st) J ds H' → R J H') (XKx P σ H W))
    (n : ∀ x v H1 p1, Kp (AA P) H H1 → SRel P own σ H1 ε p1 → Reps P.g (L0 P) H1 x v → Post (k x ε p1) (fun ds p' => ∀ J H', Kp (AA P) H1 H' → PoolOk P.g H' p' → ItOk P (MM P own σ st) J ds H' → R J H') (XKx P σ H1 W) → T v H1) : tDA K mg W own f σ H T :=
  tDA.seq (k := k) r h fun x v H1 p1 k1 r1 rv q1 => n x v H1 p1 k1 r1 rv (q1.mono (fun ds p' z J H' k' => z J H' (k1.trans k')) fun _ _ _ z => z)
/-- a list or tuple: in a comprehension, or where nothing is owned -/
theorem pdi_seq (ha : PD X W own a f) (hw : (∀ (K : PySem.W.Frag) (mg : Str → Option Value) (P : FP K mg) σ q, MM P own σ st q → L0 P q) := by first | exact fun _ _ _ _ _ h => MM.weak h | exact fun _ _ _ _ _ h => MM.toL0 h) : PDI X W own st tg a (iSeq f) := (pi_seqV ha).imp fun σ H R ⟨P, ε, p, r, q⟩ => by
  refine tD.iq (k := fun d _ => liftO (seqO d)) r q fun x v H1 p1 k1 r1 rv q1 => ?_
  obtain ⟨ds, e, q1⟩ := Post.lift q1
  have hM := hw X.K X.mg P σ
  cases x <;> simp only [seqO] at e <;> cases e <;> unfold Rep at rv
  · obtain ⟨y, vs, rfl, ta, rs⟩ := rv
    exact ⟨y, rfl, .inr ⟨vs, ta.sq, q1 _ H1 (Kp.refl _ _) r1.pool (itok_tup (fun q h => .inl (hM q h)) ta rs (.inl hM))⟩⟩
  · obtain ⟨y, vs, rfl, ta, rs⟩ := rv
    exact ⟨y, rfl, .inl ⟨vs, ta.sq, q1 _ H1 (Kp.refl _ _) r1.pool (itok_list hM (.inl ⟨ta.1, .inl ta.2⟩) rs)⟩⟩
  · obtain ⟨y, vs, rfl, ta, rs⟩ := rv
    exact ⟨y, rfl, .inl ⟨vs, ta.sq, q1 _ H1 (Kp.refl _ _) r1.pool (itok_list hM ta rs)⟩⟩
/-- a tuple without lists in a for where lists are owned -/
def seqF : D → Option (List D)
  | .tup ds => if D.frees ds = true then some ds else none
  | _ => none
def iSeqF (f : DEnv → M D) (ε : DEnv) : M (List D) := f ε >>= fun d => liftO (seqF d)
theorem pdi_seqF (ha : PD X W own a f) : PDI X W own st tg a (iSeqF f) := (pi_seqV ha).imp fun σ H R ⟨P, ε, p, r, q⟩ => by
  refine tD.iq (k := fun d _ => liftO (seqF d)) r q fun x v H1 p1 k1 r1 rv q1 => ?_
  obtain ⟨ds, e, q2⟩ := Post.lift q1
  cases x <;> simp only [seqF] at e <;> try cases e
  split at e
  · rename_i hf
    cases e
    unfold Rep at rv
    obtain ⟨y, vs, rfl, ta, rs⟩ := rv
    refine ⟨y, rfl, .inr ⟨vs, ta.sq, q2 _ H1 (Kp.refl _ _) r1.pool (itok_tup (fun q h => ?_) ta rs (.inr hf))⟩⟩
    unfold MM at h
    split at h
    · exact r1.notTup h
    · exact .inl (.inr h)
  · cases e
theorem pdi_range1 (hm : X.mg "range" = none) (ha : PDA X W own [a] fs) (hg : Gl X "range" := by rfl) (hs : starEach [a] X.env = [(false, eval a X.env)] := by rfl) : PDI X W own st tg (.Call (.Name "range" p) [a] [] pos) (iO rng1 fs) := (pi_range1 hg hm ha hs).imp fun σ H R ⟨P, ε, p, r, q⟩ => by
  refine tDA.iq (k := fun d _ => liftO (rng1 d)) r q fun x v H1 p1 k1 r1 rv q1 => ?_
  obtain ⟨ds, e, q2⟩ := Post.lift q1
  unfold rng1 at e
  cases e1 : asI1 x with
  | none => rw [e1] at e; cases e
  | some j =>
    rw [e1, Option.bind_some] at e
    split at e
    · rename_i hj
      cases e
      unfold asI1 at e1
      split at e1
      · cases e1
        obtain ⟨w, rfl, rw1⟩ := rv.one
        unfold Rep at rw1
        exact ⟨j, by rw [rw1], hj.1, hj.2, q2 _ H1 (Kp.refl _ _) r1.pool itok_range⟩
      · cases e1
    · cases e
theorem pdi_range2 (hm : X.mg "range" = none) (ha : PDA X W own [a, b] fs) (hg : Gl X "range" := by rfl) (hs : starEach [a, b] X.env = [(false, eval a X.env), (false, eval b X.env)] := by rfl) (hs2 : starEach [b] X.env = [(false, eval b X.env)] := by rfl) :
    PDI X W own st tg (.Call (.Name "range" p) [a, b] [] pos) (iO rng2 fs) := (pi_range2 hg hm ha hs hs2).imp fun σ H R ⟨P, ε, p, r, q⟩ => by
  refine tDA.iq (k := fun d _ => liftO (rng2 d)) r q fun x v H1 p1 k1 r1 rv q1 => ?_
  obtain ⟨ds, e, q2⟩ := Post.lift q1
  unfold rng2 at e
  cases e1 : asI2 x with
  | none => rw [e1] at e; cases e
  | some ij =>
    obtain ⟨i, j⟩ := ij
    rw [e1, Option.bind_some] at e
    dsimp only at e
    split at e
    · rename_i hj
      cases e
      unfold asI2 at e1
      split at e1
      · cases e1
        obtain ⟨w, w', rfl, rw1, rw2⟩ := rv.two
        unfold Rep at rw1 rw2
        exact ⟨i, j, by rw [rw1, rw2], hj, q2 _ H1 (Kp.refl _ _) r1.pool itok_range⟩
      · cases e1
    · cases e

/-! ### for -/
def fg : List Nat → DEnv → DEnv
  | [], ε => ε
  | i :: is, ε => (fg is ε).set i none
def loopF (t : Pat) (b : DEnv → M Fl) (ks : List Nat) : List D → DEnv → M Fl
  | [], ε => pure (.nx ε)
  | d :: ds, ε => liftO (t d ε) >>= fun ε1 => b ε1 >>= fun fl => match fl with
    | .nx ε2 => loopF t b ks ds (fg ks ε2)
    | .ct ε2 => loopF t b ks ds (fg ks ε2)
    | .bk ε2 => pure (.nx (fg ks ε2))
    | fl => pure fl
def sFor (it : DEnv → M (List D)) (t : Pat) (ks : List Nat) (b : DEnv → M Fl) (ε : DEnv) : M Fl := sx ε (it ε) fun ds => loopF t b ks ds ε
end
section
variable {K : PySem.W.Frag} {mg : Str → Option Value} {P : FP K mg} {own : List Nat} {σ : St} {H : Hp} {ε : DEnv} {p : Pool}
theorem set_none_get {ε : DEnv} {i j : Nat} {d : D} (h : (ε.set i none)[j]? = some (some d)) : ε[j]? = some (some d) := by
  rcases getElem?_set_cases h with ⟨_, h⟩ | ⟨_, h⟩
  · cases h
  · exact h
theorem SRel.forget (r : SRel P own σ H ε p) : ∀ ks : List Nat, SRel P own σ H (fg ks ε) p
  | [] => r
  | k :: ks => by
    have r1 := SRel.forget r ks
    unfold fg
    exact ⟨by rw [List.length_set]; exact r1.len, fun i d hi e => r1.slots i d hi (set_none_get e), fun i d hi e => r1.owned i d hi (set_none_get e), r1.ownst, r1.ownne, r1.pool, r1.keep, r1.there, r1.apart, r1.apartA, r1.ownF⟩
end
section
variable {X : Cx} {W : WX} {own ts : List Nat} {e a b c : Expr} {es : List Expr} {pos p p2 : Pos} {f g : DEnv → M D} {fs it : DEnv → M (List D)} {tg iter : Expr} {t : Pat} {sts : List Stmt} {bm : DEnv → M Fl}
theorem pds_for (ks : List Nat) (hp : PassesOwn (model X.prog X.w) X.A X.env X.xe) (hc : X.calm = true) (hi : PDI X W own true tg iter it) (hg : PDG X own ts tg t) (hb : PDSs X W own sts bm)
    (hs : ∀ x, foldedSetIterable iter X.env x = pure x := by intro _; rfl) : PDS X W own (.For tg iter sts [] pos) (sFor it t ks bm) := (ps_for hp hc hi hg hb hs).imp fun Z σ0 H0 ⟨P, ε0, p0, r0, q0⟩ => by
  refine ⟨P, ε0, p0, r0, (sx_post q0).mono (fun ds p1 q1 J H1 k1 po1 itok => ?_) fun c d p1 z => FK.xc r0 z⟩
  obtain ⟨Gd, Y, wk, hG, hY⟩ := itok
  have r1 := r0.step k1 po1
  have q1 : Post (loopF t bm ks ds ε0 p1) (FK P own W Z σ0 H1) NoX := FK.goP (Grow.ex k1) q1
  refine for_it wk (fun i σ H => ∃ ε p, SRel P own σ H ε p ∧ Grow P own σ0 H1 σ H ∧ Post (loopF t bm ks (ds.drop i) ε p) (FK P own W Z σ0 H1) NoX) ⟨ε0, p1, r1, Grow.refl, q1⟩ (fun i σ H _ ⟨ε, p, r, g, _⟩ => hG H g.kp) (fun i x σ H H' hi ⟨ε, p, r, g, q⟩ y => ?_) (fun σ H ⟨ε, p, r, g, q⟩ => ?_)
  · obtain ⟨sm, d, ed, rd⟩ := hY i H x H' (L0 P) hi g.kp (fun _ h => .inl h) r.there y
    have ed' : ds.drop i = d :: ds.drop (i + 1) := by
      have hlt : i < ds.length := hi
      rw [List.drop_eq_getElem_cons hlt]
      rw [List.getElem?_eq_getElem hlt] at ed
      cases ed
      rfl
    rw [ed'] at q
    unfold loopF at q
    obtain ⟨ε1, e1, q⟩ := Post.lift (Post.thn q)
    have r' := r.stepS sm
    have g' : Grow P own σ0 H1 σ H' := g.trans (Grow.ex (Kp.same sm))
    refine ⟨P, ε, p, d, ε1, r', rd, e1, fun σ2 r2 g2 _ => ⟨P, ε1, p, r2, (Post.thn q).mono (fun fl p2 z => ?_) fun _ _ _ z => z⟩⟩
    have gg := g'.trans g2
    cases fl with
    | nx ε2 => exact fun σ3 H3 r3 g3 => ⟨fg ks ε2, p2, r3.forget ks, gg.trans g3, z⟩
    | ct ε2 => exact fun σ3 H3 r3 g3 => ⟨fg ks ε2, p2, r3.forget ks, gg.trans g3, z⟩
    | bk ε2 => exact fun σ3 H3 r3 g3 => z σ3 H3 (r3.forget ks) (gg.trans g3)
    | rt d => exact z
    | xc c d ε2 => exact fun σ3 cv dx H3 r3 g3 => z σ3 cv dx H3 r3 (gg.trans g3)
  · rw [List.drop_length] at q
    exact q σ H r g
/-! ### while -/
def loopW (n : Nat) (c : DEnv → M Bool) (b : DEnv → M Fl) (ks : List Nat) (ε : DEnv) : M Fl := match n with
  | 0 => M.fail
  | n + 1 => sx ε (c ε) fun g => if g then b ε >>= fun fl => match fl with
    | .nx ε2 => loopW n c b ks (fg ks ε2)
    | .ct ε2 => loopW n c b ks (fg ks ε2)
    | .bk ε2 => pure (.nx (fg ks ε2))
    | fl => pure fl
    else pure (.nx ε)
theorem pds_while {fb : DEnv → M Bool} (n : DEnv → Nat) (ks : List Nat) (hp : PassesOwn (model X.prog X.w) X.A X.env X.xe) (hc : PDT X W own c fb) (hb : PDSs X W own sts bm) : PDS X W own (.While c sts [] pos) (fun ε => loopW (n ε) fb bm ks ε) := (ps_while hp hc hb).imp fun Z σ0 H0 ⟨P, ε0, p0, r0, q0⟩ => by
  refine ⟨fun m σ H => ∃ ε p, SRel P own σ H ε p ∧ Grow P own σ0 H0 σ H ∧ Post (loopW m fb bm ks ε p) (FK P own W Z σ0 H0) NoX, ⟨_, ε0, p0, r0, Grow.refl, q0⟩, ?_⟩
  rintro m σ H ⟨ε, p, r, g, q⟩
  cases m with
  | zero => exact q.elim
  | succ m =>
    unfold loopW at q
    refine ⟨P, ε, p, r, (sx_post q).mono (fun b p1 q1 H1 k1 po1 => ?_) fun c d p1 z cv dx H' k po x => z σ cv dx H' (r.step k po) (g.trans (Grow.ex k)) x⟩
    have r1 := r.step k1 po1
    have g1 : Grow P own σ0 H0 σ H1 := g.trans (Grow.ex k1)
    cases b with
    | false =>
      refine L2.iteF ?_
      rw [if_neg (by decide)] at q1
      exact q1 σ H1 r1 g1
    | true =>
      rw [if_pos rfl] at q1
      refine L2.iteT ?_
      refine ⟨fun σ H => ∃ ε p, SRel P own σ H ε p ∧ Grow P own σ0 H0 σ H ∧ Post (loopW m fb bm ks ε p) (FK P own W Z σ0 H0) NoX, fun σ' H' h => ⟨m, Nat.lt_succ_self m, h⟩, P, ε, p1, r1, (Post.thn q1).mono (fun fl p2 z => ?_) fun _ _ _ z => z⟩
      cases fl with
      | nx ε2 => exact fun σ3 H3 r3 g3 => ⟨fg ks ε2, p2, r3.forget ks, g1.trans g3, z⟩
      | ct ε2 => exact fun σ3 H3 r3 g3 => ⟨fg ks ε2, p2, r3.forget ks, g1.trans g3, z⟩
      | bk ε2 => exact fun σ3 H3 r3 g3 => z σ3 H3 (r3.forget ks) (g1.trans g3)
      | rt d => exact z
      | xc c d ε2 => exact fun σ3 cv dx H3 r3 g3 => z σ3 cv dx H3 r3 (g1.trans g3)
end
end DL

end
section
namespace DL
open PySem PySem.Spec L2

/-! ### list comprehensions -/
/-- nothing is raised out of a comprehension -/
def noEx {α : Type} (m : M α) : M α := fun p => match m p with
  | .ok a p' => .ok a p'
  | _ => .bad
@[simp] theorem noEx_pure {α : Type} (a : α) : noEx (pure a : M α) = pure a := rfl
theorem noEx_post {α : Type} {m : M α} {p : Pool} {k : α → Pool → Prop} {x x' : Str → Option (Str × D) → Pool → Prop} (h : Post (noEx m p) k x) : Post (m p) k x' := by
  unfold noEx at h
  cases e : m p with
  | ok a p' => rw [e] at h; exact h
  | ex c d p' => rw [e] at h; exact h.elim
  | bad => rw [e] at h; exact h.elim
def wipeE (ε : DEnv) : List Nat → DEnv
  | [] => ε
  | v :: vs => (wipeE ε vs).set v none
def lcM (t : Pat) (c : DEnv → M Bool) (f : DEnv → M D) : List D → DEnv → M (List D)
  | [], _ => pure []
  | d :: ds, ε => liftO (t d ε) >>= fun ε1 => c ε1 >>= fun b => if b then f ε1 >>= fun y => lcM t c f ds ε >>= fun ys => pure (y :: ys) else lcM t c f ds ε
def dYes (_ : DEnv) : M Bool := pure true
def dLc (it : DEnv → M (List D)) (vs : List Nat) (t : Pat) (c : DEnv → M Bool) (f : DEnv → M D) (ε : DEnv) : M D := it ε >>= fun ds => if ds.length ≤ 10000 then noEx (lcM t c f ds (wipeE ε vs)) >>= fun ys => pure (.lst ys) else M.fail
def W0 : WX := fun _ _ _ _ => False
section
variable {K : PySem.W.Frag} {mg : Str → Option Value} {P : FP K mg} {own : List Nat} {σ : St} {H H1 : Hp} {ε : DEnv} {p : Pool}
theorem wipe_get {i : Nat} : ∀ {vs : List Nat}, i ∉ vs → (wipe σ vs)[i]? = σ[i]?
  | [], _ => rfl
  | v :: vs, h => by
    rw [List.mem_cons, not_or] at h
    unfold wipe
    rw [List.getElem?_set_ne (fun z => h.1 z.symm), wipe_get h.2]
theorem wipeE_get {i : Nat} : ∀ {vs : List Nat}, i ∉ vs → (wipeE ε vs)[i]? = ε[i]?
  | [], _ => rfl
  | v :: vs, h => by
    rw [List.mem_cons, not_or] at h
    unfold wipeE
    rw [List.getElem?_set_ne (fun z => h.1 z.symm), wipeE_get h.2]
theorem wipeE_some {i : Nat} {d : D} : ∀ {vs : List Nat}, (wipeE ε vs)[i]? = some (some d) → ε[i]? = some (some d) ∧ i ∉ vs
  | [], h => ⟨h, by simp⟩
  | v :: vs, h => by
    unfold wipeE at h
    rcases getElem?_set_cases h with ⟨_, h⟩ | ⟨ne, h⟩
    · cases h
    · obtain ⟨h1, h2⟩ := wipeE_some h
      exact ⟨h1, by simp only [List.mem_cons, not_or]; exact ⟨fun z => ne z.symm, h2⟩⟩
theorem wipeE_length : ∀ vs : List Nat, (wipeE ε vs).length = ε.length
  | [] => rfl
  | v :: vs => by unfold wipeE; rw [List.length_set, wipeE_length vs]
/-- the same with D held apart -/
def FP.with (P : FP K mg) (q : Addr) : FP K mg := { P with F := fun x => P.F x ∨ x = q }
theorem LL_with {q x : Addr} {vs : List Nat} (hv : ∀ i, i ∈ own → i ∉ vs) : LL (P.with q) own (wipe σ vs) x ↔ LL P own σ x ∨ x = q := by
  unfold LL
  constructor
  · rintro ((h | h) | h | ⟨i, hi, h⟩)
    · exact .inl (.inl h)
    · exact .inr h
    · exact .inl (.inr (.inl h))
    · exact .inl (.inr (.inr ⟨i, hi, by rw [wipe_get (hv i hi)] at h; exact h⟩))
  · rintro ((h | h | ⟨i, hi, h⟩) | h)
    · exact .inl (.inl h)
    · exact .inr (.inl h)
    · exact .inr (.inr ⟨i, hi, by rw [wipe_get (hv i hi)]; exact h⟩)
    · exact .inl (.inr h)
theorem SRel.block (r : SRel P own σ H ε p) {q : Addr} (hq : H q = none) {vs : List Nat} (hv : ∀ i, i ∈ own → i ∉ vs) : SRel (P.with q) own (wipe σ vs) (upd H q (.lst [])) (wipeE ε vs) p := by
  have k : Kp (LL P own σ) H (upd H q (.lst [])) := Kp.new hq
  have hl : ∀ x, LL (P.with q) own (wipe σ vs) x → LL P own σ x ∨ H x = none := fun x h => ((LL_with hv).mp h).imp id fun e => (by rw [e]; exact hq)
  have nq : ∀ {x o}, H x = some o → x ≠ q := fun {x o} e z => by rw [z, hq] at e; cases e
  refine ⟨by rw [wipeE_length, wipe_length]; exact r.len, fun i d hi e => ?_, fun i d hi e => ?_, fun i hi v e => ?_, fun i j x hi hj e e' => ?_, ?_, ?_, fun x h => ?_, fun x h => ?_, r.apartA, fun i hi x e z => ?_⟩
  · obtain ⟨e1, hn⟩ := wipeE_some e
    obtain ⟨v, e2, rv⟩ := r.slots i d hi e1
    exact ⟨v, by rw [wipe_get hn]; exact e2, Rep.mono k hl d v rv⟩
  · obtain ⟨e1, hn⟩ := wipeE_some e
    obtain ⟨x, e2, rv⟩ := r.owned i d hi e1
    obtain ⟨x', e3, _, m⟩ := r.ownst i hi _ e2
    cases e3
    have nx : x ≠ q := by
      rcases m with ⟨_, m⟩ | ⟨_, m⟩ | ⟨_, m⟩ <;> exact nq m
    exact ⟨x, by rw [wipe_get hn]; exact e2, OwnRep.mono k hl (upd_ne nx) rv⟩
  · rw [wipe_get (hv i hi)] at e
    obtain ⟨x, e1, n, m⟩ := r.ownst i hi v e
    have nx : x ≠ q := by
      rcases m with ⟨_, m⟩ | ⟨_, m⟩ | ⟨_, m⟩ <;> exact nq m
    exact ⟨x, e1, n, m.kp (upd_ne nx)⟩
  · rw [wipe_get (hv i hi)] at e
    rw [wipe_get (hv j hj)] at e'
    exact r.ownne i j x hi hj e e'
  · exact PoolOk.kp r.pool (same_new hq)
  · exact r.keep.trans (Kp.new hq)
  · by_cases z : x = q
    · rw [z, upd_same]; exact fun y => nomatch y
    · rw [upd_ne z]
      refine r.there x ?_
      rcases h with (h | h) | h
      · exact .inl h
      · exact (z h).elim
      · exact .inr h
  · rcases h with h | h
    · exact r.apart x h
    · exact fun z => r.there x (.inr z) (by rw [h]; exact hq)
  · rw [wipe_get (hv i hi)] at e
    rcases z with z | z
    · exact r.ownF i hi x e z
    · obtain ⟨x', e1, n, m⟩ := r.ownst i hi _ e
      cases e1
      rcases m with ⟨_, m⟩ | ⟨_, m⟩ | ⟨_, m⟩ <;> rw [z, hq] at m <;> cases m
theorem SRel.new0 (r : SRel P own σ H ε p) {q : Addr} (hq : H q = none) : P.H0 q = none := by
  cases e : P.H0 q with
  | none => rfl
  | some o =>
    by_cases ha : AA P q
    · exact (r.there q (.inr ha) hq).elim
    · rw [r.keep q o e ha] at hq; cases hq
/-- the new list at q grows -/
theorem SRel.grown {q : Addr} (r : SRel (P.with q) own σ H ε p) (h0 : P.H0 q = none) {vs : List V} : SRel (P.with q) own σ (upd H q (.lst vs)) ε p := by
  have hq : L0 (P.with q) q := .inl (.inr rfl)
  have hqA : ¬ AA P q := r.apart q (.inr rfl)
  have k : Kp (LL (P.with q) own σ) H (upd H q (.lst vs)) := fun x o e n => by
    rw [upd_ne (by intro z; subst z; exact n hq.LL)]
    exact e
  have nown : ∀ i, i ∈ own → ∀ x, σ[i]? = some (some (.ref x)) → x ≠ q := fun i hi x e z => r.ownF i hi x e (.inr z)
  refine ⟨r.len, fun i d hi e => ?_, fun i d hi e => ?_, fun i hi v e => ?_, r.ownne, ?_, ?_, fun x h => ?_, r.apart, r.apartA, r.ownF⟩
  · obtain ⟨v, e2, rv⟩ := r.slots i d hi e
    exact ⟨v, e2, Rep.mono k (fun _ h => .inl h) d v rv⟩
  · obtain ⟨x, e2, rv⟩ := r.owned i d hi e
    exact ⟨x, e2, OwnRep.mono k (fun _ h => .inl h) (upd_ne (nown i hi x e2)) rv⟩
  · obtain ⟨x, e1, n, m⟩ := r.ownst i hi v e
    exact ⟨x, e1, n, m.kp (upd_ne (nown i hi x (by rw [e, e1])))⟩
  · have po := r.pool
    unfold PoolOk at po ⊢
    split at po
    · trivial
    · rename_i ea
      obtain ⟨is, e1, h⟩ := po
      refine ⟨is, e1, ?_⟩
      rw [upd_ne (by intro z; subst z; exact hqA ea)]
      exact h
    · exact po.elim
  · intro x o e n
    have z : x ≠ q := by
      intro z
      subst z
      have e' : P.H0 x = some o := e
      rw [h0] at e'
      cases e'
    rw [upd_ne z]; exact r.keep x o e n
  · by_cases z : x = q
    · rw [z, upd_same]; exact fun y => nomatch y
    · rw [upd_ne z]; exact r.there x h
end
section
variable {X : Cx} {W : WX} {own ts : List Nat} {e a b c : Expr} {es : List Expr} {pos p p2 : Pos} {f g : DEnv → M D} {fs it : DEnv → M (List D)} {tg iter : Expr} {t : Pat} {fc : DEnv → M Bool}
abbrev PDTs (X : Cx) (W : WX) (own : List Nat) (ifs : List Expr) (f : DEnv → M Bool) : Prop := PTs X ifs (tDT X.K X.mg W own f)
theorem pdts_nil : PDTs X W own [] dYes := ⟨fun pins s σ H Q I ⟨P, ε, p, r, q⟩ => pts_nil.run pins s σ H Q I (q H (Kp.refl _ _) r.pool)⟩
theorem pdts_one (h : PDT X W own c fc) : PDTs X W own [c] fc := pts_one h
theorem wipe_ch {ts vs : List Nat} {σ σ' : St} (h : Ch ts σ σ') (hs : ∀ i, i ∈ ts → i ∈ vs) : wipe σ' vs = wipe σ vs := by
  apply List.ext_getElem?
  intro i
  by_cases hi : i ∈ vs
  · have key : ∀ (us : List Nat) (τ : St), i ∈ us → (wipe τ us)[i]? = if i < τ.length then some none else none := by
      intro us
      induction us with
      | nil => intro τ z; cases z
      | cons u us ih =>
        intro τ z
        unfold wipe
        by_cases hu : u = i
        · subst hu
          by_cases hl : u < τ.length
          · rw [if_pos hl, List.getElem?_set_self (by rw [wipe_length]; exact hl)]
          · rw [if_neg hl, List.getElem?_eq_none (by rw [List.length_set, wipe_length]; omega)]
        · rw [List.getElem?_set_ne hu]
          exact ih τ ((List.mem_cons.mp z).resolve_left fun y => hu y.symm)
    rw [key vs σ' hi, key vs σ hi, h.1]
  · rw [wipe_get hi, wipe_get hi]
    exact h.2 i fun z => hi (hs i z)
theorem wipe_wipe {vs : List Nat} {σ : St} : wipe (wipe σ vs) vs = wipe σ vs := by
  refine wipe_ch (ts := vs) ⟨wipe_length _ _, fun i hi => wipe_get hi⟩ fun i z => z
/-- behind an expression that gives a new list -/
def NK {K : PySem.W.Frag} {mg : Str → Option Value} (P : FP K mg) (H : Hp) (Q : VK) : D → Pool → Prop := fun d p' => ∀ q H', Kp (AA P) H H' → PoolOk P.g H' p' → H q = none → Rep P.g (L0 P) H' d (.ref q) → Q (.ref q) H'
/-- a reading of what gives a new list -/
def tDN (K : PySem.W.Frag) (mg : Str → Option Value) (W : WX) (own : List Nat) (f : DEnv → M D) : TE := fun σ H Q => ∃ (P : FP K mg) (ε : DEnv) (p : Pool), SRel P own σ H ε p ∧ Post (f ε p) (NK P H Q) (XKx P σ H W)
theorem EK.nk {K : PySem.W.Frag} {mg : Str → Option Value} {P : FP K mg} {H : Hp} {Q : VK} {d : D} {p : Pool} (h : EK P H Q d p) : NK P H Q d p := fun q H' k po _ r => h (.ref q) H' k po r
theorem tD.nw {K : PySem.W.Frag} {mg : Str → Option Value} {f : DEnv → M D} {σ : St} {H : Hp} {Q : VK} (h : tD K mg W own f σ H Q) : tDN K mg W own f σ H Q := by
  obtain ⟨P, ε, p, r, q⟩ := h
  exact ⟨P, ε, p, r, q.mono (fun _ _ z => z.nk) fun _ _ _ z => z⟩
abbrev PDN (X : Cx) (W : WX) (own : List Nat) (e : Expr) (f : DEnv → M D) : Prop := PE X e (tDN X.K X.mg W own f)
theorem PDN.pd (h : PDN X W own e f) : PD X W own e f := L2.PE.imp h fun _ _ _ q => tD.nw q
theorem wipeE_of (P : FP K mg) : True := trivial
/-- [f for t in it if c] -/
theorem lc_reading {own2 : List (Str × Nat)} (hv : ∀ i, i ∈ own → i ∉ own2.map (·.2)) (hts : ∀ i, i ∈ ts → i ∈ own2.map (·.2)) {σ0 : St} {H0 : Hp} {Q : VK} (h : tDN X.K X.mg W own (dLc it (own2.map (·.2)) t fc f) σ0 H0 Q) :
    tLc (iD X.K X.mg W own false it) (gD X.K X.mg own ts t) (tDT X.K X.mg W0 own fc) (tD X.K X.mg W0 own f) (own2.map (·.2)) σ0 H0 Q := by
  obtain ⟨P, ε0, p0, r0, q0⟩ := h
  refine ⟨P, ε0, p0, r0, (Post.thn q0).mono (fun ds p1 q1 J H1 k1 po1 itok Dq hD => ?_) fun _ _ _ z => z⟩
  obtain ⟨Gd, Y, wk, hG, hY⟩ := itok
  have r1 := r0.step k1 po1
  split at q1
  · rename_i hlen
    have q2 := noEx_post (x' := NoX) (Post.thn q1)
    have hD0 := r1.new0 hD
    have hDA : ¬ AA P Dq := fun z => r1.there Dq (.inr z) hD
    have rb := r1.block (vs := own2.map (·.2)) hD hv
    generalize hvs : own2.map (·.2) = vs at *
    refine lc_it wk (fun i H => ∃ p acc ws, SRel (P.with Dq) own (wipe σ0 vs) H (wipeE ε0 vs) p ∧ Kp (fun q => AA P q ∨ q = Dq) (upd H1 Dq (.lst [])) H ∧ H Dq = some (.lst ws) ∧ Reps P.g (L0 (P.with Dq)) H acc ws ∧ acc.length ≤ i ∧
      Post (lcM t fc f (ds.drop i) (wipeE ε0 vs) p) (fun ys p' => NK P H0 Q (.lst (acc ++ ys)) p') NoX) ⟨p1, [], [], rb, Kp.refl _ _, upd_same, Reps.nil, Nat.le_refl _, q2⟩ (fun i H _ ⟨p, acc, ws, r, k, _⟩ => hG H ?_) (fun i x H H' hi ⟨p, acc, ws, r, k, eD, racc, hacc, q⟩ y => ?_) (fun H ⟨p, acc, ws, r, k, eD, racc, hacc, q⟩ => ?_)
    · intro x o e n
      have nx : x ≠ Dq := fun z => by rw [z, hD] at e; cases e
      exact k x o (by rw [upd_ne nx]; exact e) fun z => z.elim n nx
    · have kH : Kp (AA P) H1 H := fun x o e n => by
        have nx : x ≠ Dq := fun z => by rw [z, hD] at e; cases e
        exact k x o (by rw [upd_ne nx]; exact e) fun z => z.elim n nx
      have hl' : ∀ q, L0 (P.with Dq) q → L0 P q ∨ H1 q = none := fun q h => by
        rcases h with (h | h) | h
        · exact .inl (.inl h)
        · exact .inr (by rw [h]; exact hD)
        · exact .inl (.inr h)
      obtain ⟨sm, d, ed, rd⟩ := hY i H x H' (L0 (P.with Dq)) hi kH hl' r.there y
      have hlt : i < ds.length := hi
      have ed' : ds.drop i = d :: ds.drop (i + 1) := by
        rw [List.drop_eq_getElem_cons hlt]
        rw [List.getElem?_eq_getElem hlt] at ed
        cases ed
        rfl
      rw [ed'] at q
      unfold lcM at q
      obtain ⟨ε1, e1, q⟩ := Post.lift (Post.thn q)
      have r' := r.stepS sm
      refine ⟨P.with Dq, wipeE ε0 vs, p, d, ε1, r', rd, e1, fun σ2 r2 g2 c2 => ?_⟩
      have wp : wipe σ2 vs = wipe σ0 vs := (wipe_ch c2 hts).trans wipe_wipe
      refine ⟨wp, ?_⟩
      refine ⟨P.with Dq, ε1, p, r2, (Post.thn q).mono (fun bb p3 q3 H3 k3 po3 => ?_) fun _ _ _ z => z.elim⟩
      have rw3 := r'.step (H' := H3) (p' := p3) k3 po3
      have kq : Kp (fun q => AA P q ∨ q = Dq) H H3 := (Kp.same sm).trans (k3.weak fun q h => .inl h)
      have eD3 : H3 Dq = some (.lst ws) := k3 Dq _ (sm Dq _ eD) hDA
      have racc3 : Reps P.g (L0 (P.with Dq)) H3 acc ws := Reps.mono ((Kp.same sm).trans (k3.weak fun q h => .inr h)) (fun _ h => .inl h) acc ws racc
      cases bb with
      | false =>
        refine L2.iteF ?_
        rw [if_neg (by decide)] at q3
        exact ⟨p3, acc, ws, rw3, k.trans kq, eD3, racc3, by omega, q3⟩
      | true =>
        refine L2.iteT ?_
        rw [if_pos rfl] at q3
        have r23 := r2.step (H' := H3) (p' := p3) k3 po3
        refine ⟨P.with Dq, ε1, p3, r23, (Post.thn q3).mono (fun yd p4 q4 vy H4 k4 po4 ry => ?_) fun _ _ _ z => z.elim⟩
        have eD4 : H4 Dq = some (.lst ws) := k4 Dq _ eD3 hDA
        have lw := racc.length
        have := line10
        refine ⟨ws, eD4, by omega, p4, acc ++ [yd], ws ++ [vy], (rw3.step (H' := H4) (p' := p4) k4 po4).grown hD0, ?_, upd_same, ?_, by rw [List.length_append, List.length_singleton]; omega, ?_⟩
        · refine (k.trans kq).trans ((k4.weak fun q h => .inl h).trans fun x o e n => ?_)
          rw [upd_ne fun z => n (.inr z)]
          exact e
        · have hLD : L0 (P.with Dq) Dq := .inl (.inr rfl)
          have ku : Kp (L0 (P.with Dq)) H4 (upd H4 Dq (.lst (ws ++ [vy]))) := fun x o e n => by
            rw [upd_ne (by intro z; subst z; exact n hLD)]
            exact e
          refine Reps.mono ku (fun _ h => .inl h) _ _ (Reps.append (Reps.mono (k4.weak fun q h => .inr h) (fun _ h => .inl h) acc ws racc3) (.cons ry .nil))
        · have q5 := Post.thn q4
          refine q5.mono (fun ys p5 z => ?_) fun _ _ _ z => z
          rw [List.append_assoc]
          exact z
    · rw [List.drop_length] at q
      have q' : NK P H0 Q (.lst (acc ++ [])) p := q
      rw [List.append_nil] at q'
      have hD00 : H0 Dq = none := by
        cases e : H0 Dq with
        | none => rfl
        | some o =>
          rw [k1 Dq o e hDA] at hD
          cases hD
      refine q' Dq H ?_ ?_ hD00 ?_
      · refine k1.trans fun x o e n => ?_
        have nx : x ≠ Dq := fun z => by rw [z, hD] at e; cases e
        exact k x o (by rw [upd_ne nx]; exact e) fun z => z.elim n nx
      · exact r.pool
      · unfold Rep
        refine ⟨Dq, ws, rfl, ⟨fun z => r1.there Dq z hD, eD⟩, Reps.mono (Kp.refl _ _) (fun q h => .inl (h.elim (fun h => .inl (.inl h)) .inr)) acc ws racc⟩
  · exact q1.elim
theorem pd_lc {elt : Expr} {ifs : List Expr} {scope : Scope} (own2 : List (Str × Nat)) (hc : X.calm = true) (hN : X.N.Nodup) (hi : PDI X W own false tg iter it) (ok : BlkOk X.N X.env.scope scope own2)
    (hg : ∀ (s : Shared) (H : Hp) (C : Addr) (cl : List (Str × Addr)) (fp : List Addr), PDG (X.blk s H scope (compEnvC scope cl C X.env) fp) own ts tg t) (ht : ∀ (s : Shared) (H : Hp) (C : Addr) (cl : List (Str × Addr)) (fp : List Addr), PDTs (X.blk s H scope (compEnvC scope cl C X.env) fp) W0 own ifs fc)
    (he : ∀ (s : Shared) (H : Hp) (C : Addr) (cl : List (Str × Addr)) (fp : List Addr), PD (X.blk s H scope (compEnvC scope cl C X.env) fp) W0 own elt f) (hv : ∀ i, i ∈ own → i ∉ own2.map (·.2) := by decide) (hts : ∀ i, i ∈ ts → i ∈ own2.map (·.2) := by decide) (hs : ∀ x, foldedSetIterable iter X.env x = pure x := by intro _; rfl) :
    PD X W own (.ListComp elt [⟨tg, iter, ifs, 0⟩] scope pos) (dLc it (own2.map (·.2)) t fc f) :=
  (pe_lc (tt := tDT X.K X.mg W0 own fc) (te := tD X.K X.mg W0 own f) (g := gD X.K X.mg own ts t) hc hN hi ok hg ht he hs).imp fun σ H Q q => lc_reading hv hts q.nw
/-- y = [..] -/
theorem pds_setLc {i : Nat} {y : Str} {py spos : Pos} {elt : Expr} {ifs : List Expr} {scope : Scope} (own2 : List (Str × Nat)) (chk : Bool) (hc : X.calm = true) (hN : X.N.Nodup) (hy : X.N[i]? = some y) (hyl : X.env.scope.names.lookup y = some .local)
    (hsw : swapsWith (.ListComp elt [⟨tg, iter, ifs, 0⟩] scope pos) (some (.Name y py)) spos.line X.env = pure true) (hi : PDI X W own false tg iter it) (ok : BlkOk X.N X.env.scope scope own2)
    (hg : ∀ (s : Shared) (H : Hp) (C : Addr) (cl : List (Str × Addr)) (fp : List Addr), PDG (X.blk s H scope (compEnvC scope cl C X.env) fp) own ts tg t) (ht : ∀ (s : Shared) (H : Hp) (C : Addr) (cl : List (Str × Addr)) (fp : List Addr), PDTs (X.blk s H scope (compEnvC scope cl C X.env) fp) W0 own ifs fc)
    (he : ∀ (s : Shared) (H : Hp) (C : Addr) (cl : List (Str × Addr)) (fp : List Addr), PD (X.blk s H scope (compEnvC scope cl C X.env) fp) W0 own elt f) (ho : i ∉ own := by decide) (hw : own = [] ∨ chk = true := by first | exact .inl rfl | exact .inr rfl) (hv : ∀ i, i ∈ own → i ∉ own2.map (·.2) := by decide) (hts : ∀ i, i ∈ ts → i ∈ own2.map (·.2) := by decide) (hs : ∀ x, foldedSetIterable iter X.env x = pure x := by intro _; rfl) :
    PDS X W own (.Assign [.Name y py] (.ListComp elt [⟨tg, iter, ifs, 0⟩] scope pos) spos) (sSet chk i (dLc it (own2.map (·.2)) t fc f)) :=
  (ps_setLc (tt := tDT X.K X.mg W0 own fc) (te := tD X.K X.mg W0 own f) (g := gD X.K X.mg own ts t) hc hN hy hyl hsw hi ok hg ht he hs).imp fun Z σ H ⟨P, ε, p, r, q⟩ => by
  refine lc_reading hv hts (tD.nw (tD.sxq (k := fun d ε => if (!chk || d.free) = true then pure (Fl.nx (ε.set i (some d))) else M.fail) r q fun x v H1 p1 k1 r1 rx q1 => ?_))
  split at q1
  · rename_i hc'
    exact q1 _ H1 (r1.set ho (r1.strong rx (chk_or hw hc'))) (Grow.set ho)
  · exact q1.elim
end
end DL

end
section
namespace DL
open PySem PySem.Spec L2

/-! ### chains of comparisons -/
def dChain (o o' : D → D → Option D) (f g h : DEnv → M D) (ε : DEnv) : M D := f ε >>= fun x => g ε >>= fun y => liftO (o x y) >>= fun z => liftO (asB z) >>= fun c => if c then h ε >>= fun w => liftO (o' y w) else pure (.bl false)
section
variable {X : Cx} {W : WX} {own ts : List Nat} {e a b c : Expr} {es : List Expr} {pos p p2 : Pos} {f g h : DEnv → M D} {fs it : DEnv → M (List D)} {tg iter : Expr}
theorem tD.chain {K : PySem.W.Frag} {mg : Str → Option Value} {r r' : R2} {o o' : D → D → Option D} (hr : Op2 K mg r o) (hr' : Op2 K mg r' o') {σ : St} {H : Hp} {Q : VK} (q : tD K mg W own (dChain o o' f g h) σ H Q) : tChain r r' (tD K mg W own f) (tD K mg W own g) (tD K mg W own h) σ H Q := by
  obtain ⟨P, ε, p, rel, q⟩ := q
  refine tD.seq (k := fun x ε => g ε >>= fun y => liftO (o x y) >>= fun z => liftO (asB z) >>= fun c => if c then h ε >>= fun w => liftO (o' y w) else pure (D.bl false)) rel q fun x vx H1 p1 k1 r1 rx q1 => ?_
  refine tD.seq (k := fun y ε => liftO (o x y) >>= fun z => liftO (asB z) >>= fun c => if c then h ε >>= fun w => liftO (o' y w) else pure (D.bl false)) r1 q1 fun y vy H2 p2 k2 r2 ry q2 => ?_
  obtain ⟨z, ez, q3⟩ := Post.lift (Post.thn q2)
  obtain ⟨c, ec, q4⟩ := Post.lift (Post.thn q3)
  clear q q1 q2 q3
  obtain rfl := asB_some ec
  refine hr P.a (L0 P) H2 x y _ vx vy _ r2.there (Rep.mono (k2.weak fun q h => .inr h) (fun _ h => .inl h) x vx rx) ry ez fun v H3 s3 rv => ?_
  unfold Rep at rv
  refine ⟨c, rv, ?_⟩
  have r3 := r2.stepS s3
  cases c with
  | false =>
    refine L2.iteF ?_
    rw [if_neg (by decide)] at q4
    exact q4 _ H3 ((k1.trans k2).trans (Kp.same s3)) r3.pool (by unfold Rep; rfl)
  | true =>
    refine L2.iteT ?_
    rw [if_pos rfl] at q4
    refine tD.seq (P := P) (k := fun w _ => liftO (o' y w)) r3 (q4.mono (fun _ _ z => (z.shift (k1.trans k2)).shift (Kp.same s3)) fun _ _ _ z => z.shift (Kp.same s3)) fun w vw H4 p4 k4 r4 rw4 q5 => ?_
    obtain ⟨d, ed, q6⟩ := Post.lift q5
    exact hr' P.a (L0 P) H4 y w d vy vw Q r4.there (Rep.mono ((Kp.same s3).trans (k4.weak fun q h => .inr h)) (fun _ h => .inl h) y vy ry) rw4 ed fun v H' s rv => q6 v H' (k4.trans (Kp.same s)) (r4.pool.kp s) rv
theorem pd_chain {op op' : CmpOp} {r r' : R2} {o o' : D → D → Option D} (ho : OpR X (compareOp op) r) (ho' : OpR X (compareOp op') r') (hr : Op2 X.K X.mg r o) (hr' : Op2 X.K X.mg r' o') (ha : PD X W own a f) (hb : PD X W own b g) (hc : PD X W own c h)
    (hm : lastMarks [op, op'] [b, c] = false := by with_unfolding_all rfl) : PD X W own (.Compare a [op, op'] [b, c] pos) (dChain o o' f g h) := (pe_chain ho ho' ha hb hc hm).imp fun _ _ _ q => tD.chain hr hr' q
theorem pdt_chain {op op' : CmpOp} {r r' : R2} {o o' : D → D → Option D} (ho : OpR X (compareOp op) r) (ho' : OpR X (compareOp op') r') (hr : Op2 X.K X.mg r o) (hr' : Op2 X.K X.mg r' o') (ha : PD X W own a f) (hb : PD X W own b g) (hc : PD X W own c h)
    (hm : lastMarks [op, op'] [b, c] = false := by with_unfolding_all rfl) : PDT X W own (.Compare a [op, op'] [b, c] pos) (dB (dChain o o' f g h)) := (pt_chain ho ho' ha hb hc hm).imp fun σ H Q ⟨P, ε, p, rel, q⟩ => by
  refine tD.chain (f := f) (g := g) (h := h) hr hr' ⟨P, ε, p, rel, (Post.thn q).mono (fun x p1 q1 v H1 k1 po rv => ?_) fun _ _ _ z => z⟩
  obtain ⟨c, e, q1⟩ := Post.lift q1
  obtain rfl := asB_some e
  unfold Rep at rv
  exact ⟨c, rv, q1 H1 k1 po⟩

/-! ### slices -/
def cut {α : Type} (xs : List α) (lo hi : Option Int) : List α := (xs.drop (HT.sIx xs.length 0 lo)).take (HT.sIx xs.length xs.length hi - HT.sIx xs.length 0 lo)
def tDO (K : PySem.W.Frag) (mg : Str → Option Value) (W : WX) (own : List Nat) (f : DEnv → M (Option Int)) : TO := fun σ H Q => ∃ (P : FP K mg) (ε : DEnv) (p : Pool), SRel P own σ H ε p ∧ Post (f ε p) (fun o p' => ∀ H', Kp (AA P) H H' → PoolOk P.g H' p' → Q o H') (XKx P σ H W)
abbrev PDO (X : Cx) (W : WX) (own : List Nat) (e : Option Expr) (f : DEnv → M (Option Int)) : Prop := PO X e (tDO X.K X.mg W own f)
def oNone (_ : DEnv) : M (Option Int) := pure none
def oSome (f : DEnv → M D) (ε : DEnv) : M (Option Int) := f ε >>= fun d => liftO (asI d) >>= fun i => pure (some i)
theorem _root_.L2.PO.imp {o : Option Expr} {t u : TO} (h : PO X o t) (i : ∀ σ H Q, u σ H Q → t σ H Q) : PO X o u := ⟨fun pins s σ H Q I q => h.run pins s σ H Q I (i σ H Q q)⟩
theorem pdo_none : PDO X W own none oNone := po_none.imp fun σ H Q ⟨P, ε, p, rel, q⟩ => q H (Kp.refl _ _) rel.pool
theorem pdo_some (ha : PD X W own a f) : PDO X W own (some a) (oSome f) := (po_some ha).imp fun σ H Q ⟨P, ε, p, rel, q⟩ => by
  refine tD.seq (k := fun d _ => liftO (asI d) >>= fun i => pure (some i)) rel q fun x vx H1 p1 k1 r1 rx q1 => ?_
  obtain ⟨i, e, q1⟩ := Post.lift (Post.thn q1)
  obtain rfl := asI_some e
  unfold Rep at rx
  exact ⟨i, rx, q1 H1 k1 r1.pool⟩
def slD (lo hi : Option Int) : D → Option D
  | .tup ds => some (.tup (cut ds lo hi))
  | .lst ds => some (.lst (cut ds lo hi))
  | .rol ds => some (.lst (cut ds lo hi))
  | _ => none
def dSl (f : DEnv → M D) (lo hi : DEnv → M (Option Int)) (ε : DEnv) : M D := f ε >>= fun d => lo ε >>= fun l => hi ε >>= fun h => liftO (slD l h d)
theorem tDO.seq {K : PySem.W.Frag} {mg : Str → Option Value} {α : Type} {f : DEnv → M (Option Int)} {k : Option Int → DEnv → M α} {σ : St} {H : Hp} {P : FP K mg} {ε : DEnv} {p : Pool} {R : α → Pool → Prop} {T : Option Int → Hp → Prop}
    (r : SRel P own σ H ε p) (h : Post ((f ε >>= fun x => k x ε) p) R (XKx P σ H W))
    (n : ∀ x H1 p1, Kp (AA P) H H1 → SRel P own σ H1 ε p1 → Post (k x ε p1) R (XKx P σ H1 W) → T x H1) : tDO K mg W own f σ H T :=
  ⟨P, ε, p, r, (Post.thn h).mono (fun x p1 hp H1 k1 po => n x H1 p1 k1 (r.step k1 po) (hp.mono (fun _ _ z => z) fun _ _ _ z => z.shift k1)) fun _ _ _ z => z⟩
theorem cut_len {xs : List V} {ds : List D} {lo hi : Option Int} (h : xs.length = ds.length) : cutV xs lo hi = (xs.drop (HT.sIx ds.length 0 lo)).take (HT.sIx ds.length ds.length hi - HT.sIx ds.length 0 lo) := by
  unfold cutV
  rw [h]
theorem pd_slice {lo hi : Option Expr} {fl fh : DEnv → M (Option Int)} (ha : PD X W own a f) (hl : PDO X W own lo fl) (hh : PDO X W own hi fh) : PD X W own (.Subscript a (.Slice lo hi none p2) pos) (dSl f fl fh) :=
  (pe_slice (SlR.or sl_list sl_tupA) ha hl hh).imp fun σ H Q ⟨P, ε, p, rel, q⟩ => by
  refine tD.seq (k := fun d ε => fl ε >>= fun l => fh ε >>= fun h => liftO (slD l h d)) rel q fun x vx H1 p1 k1 r1 rx q1 => ?_
  refine tDO.seq (k := fun l ε => fh ε >>= fun h => liftO (slD l h x)) r1 q1 fun l H2 p2 k2 r2 q2 => ?_
  refine tDO.seq (k := fun h _ => liftO (slD l h x)) r2 q2 fun h H3 p3 k3 r3 q3 => ?_
  obtain ⟨d, e, q4⟩ := Post.lift q3
  clear q q1 q2 q3
  have kk := (k1.trans k2).trans k3
  have rx3 : Rep P.g (L0 P) H3 x vx := Rep.mono ((k2.trans k3).weak fun q h => .inr h) (fun _ h => .inl h) x vx rx
  cases x <;> simp only [slD] at e <;> cases e
  · rename_i ds
    have rx4 := rx3
    unfold Rep at rx3
    obtain ⟨y, vs, rfl, t, rs⟩ := rx3
    have hl := rs.length
    refine .inr ⟨y, vs, rfl, t.sq, fun z => ?_, fun z pp hp => ?_⟩
    · have ec : cut ds l h = ds := by
        unfold cut
        rw [hl] at z
        rw [z.1, z.2, List.drop_zero, Nat.sub_zero, List.take_length]
      rw [ec] at q4
      exact q4 _ H3 kk r3.pool rx4
    · have rc : Reps P.g (L0 P) H3 (cut ds l h) (cutV vs l h) := by
        rw [cut_len hl]
        exact (rs.drop _).take _
      exact q4 _ _ (kk.trans (Kp.new hp)) (r3.pool.kp (same_new hp)) (Rep.tup_new r3.there hp rc)
  · rename_i ds
    unfold Rep at rx3
    obtain ⟨y, vs, rfl, t, rs⟩ := rx3
    have rc : Reps P.g (L0 P) H3 (cut ds l h) (cutV vs l h) := by
      rw [cut_len rs.length]
      exact (Reps.drop _ rs).take _
    exact .inl ⟨y, vs, rfl, t.sq, fun pp hp => q4 _ _ (kk.trans (Kp.new hp)) (r3.pool.kp (same_new hp)) (Rep.lst_new r3.there hp rc)⟩
  · rename_i ds
    unfold Rep at rx3
    obtain ⟨y, vs, rfl, t, rs⟩ := rx3
    have rc : Reps P.g (L0 P) H3 (cut ds l h) (cutV vs l h) := by
      rw [cut_len rs.length]
      exact (Reps.drop _ rs).take _
    exact .inl ⟨y, vs, rfl, t.sq, fun pp hp => q4 _ _ (kk.trans (Kp.new hp)) (r3.pool.kp (same_new hp)) (Rep.lst_new r3.there hp rc)⟩

/-! ### the pool's numbers -/
def isPool (i : Nat) (ε : DEnv) : Bool := match ε[i]? with
  | some (some .pool) => true
  | _ => false
def rdPool (j : Int) : M D := fun p => match p with
  | some ds => (match atI ds j with
    | some d => .ok d p
    | none => .bad)
  | none => .bad
def dPool (i : Nat) (g : DEnv → M D) (ε : DEnv) : M D := if isPool i ε then g ε >>= fun y => liftO (asI y) >>= fun j => rdPool j else M.fail
theorem isPool_rel {K : PySem.W.Frag} {mg : Str → Option Value} {P : FP K mg} {σ : St} {H : Hp} {ε : DEnv} {p : Pool} {i : Nat} (r : SRel P own σ H ε p) (h : isPool i ε = true) : ∃ q, σ[i]? = some (some (.ref q)) ∧ P.a = some q := by
  unfold isPool at h
  split at h
  · rename_i e
    obtain ⟨v, e1, rv⟩ := r.read e
    unfold Rep at rv
    obtain ⟨q, rfl, ea⟩ := rv
    exact ⟨q, e1, ea⟩
  · cases h
theorem pool_at {K : PySem.W.Frag} {mg : Str → Option Value} {P : FP K mg} {H : Hp} {p : Pool} {q : Addr} (po : PoolOk P.g H p) (ea : P.a = some q) : ∃ is : List Int, p = some (is.map D.int) ∧ H q = some (.lst (is.map V.int)) := by
  unfold PoolOk at po
  rw [show P.g.a = some q from ea] at po
  cases p with
  | none => exact po.elim
  | some ds =>
    obtain ⟨is, e, h⟩ := po
    exact ⟨is, by rw [e], h⟩
theorem atI_map {α β : Type} {xs : List α} {i : Int} (f : α → β) : atI (xs.map f) i = (atI xs i).map f := by
  unfold atI
  rw [List.length_map]
  cases ixN xs.length i <;> simp
theorem pd_pool {i : Nat} {x : Str} (hN : X.N[i]? = some x) (hv : Vis X.env.scope x) (hb : PD X W own b g) (hd : (x == ("__debug__" : Str)) = false := by decide) (hcd : (x == ("__classdict__" : Str)) = false := by decide) (hs : PlainIx b := by intro _ _; rfl) :
    PD X W own (.Subscript (.Name x p2) b pos) (dPool i g) := (pe_ix ix_list (pe_var hN hv hd hcd) hb hs).imp fun σ H Q ⟨P, ε, p, rel, q⟩ => by
  unfold dPool at q
  split at q
  · rename_i hp
    obtain ⟨y, e1, ea⟩ := isPool_rel rel hp
    refine ⟨.ref y, e1, ?_⟩
    refine tD.seq (k := fun y _ => liftO (asI y) >>= fun j => rdPool j) rel q fun d v H1 p1 k1 r1 rv q1 => ?_
    obtain ⟨j, ej, q2⟩ := Post.lift (Post.thn q1)
    clear q q1
    obtain rfl := asI_some ej
    unfold Rep at rv
    obtain ⟨is, ep, eh⟩ := pool_at r1.pool ea
    unfold rdPool at q2
    rw [ep] at q2
    dsimp only at q2
    rw [atI_map] at q2
    cases z : atI is j with
    | none => rw [z] at q2; exact q2.elim
    | some m =>
      rw [z] at q2
      refine ⟨y, is.map V.int, j, .int m, rfl, rv, SqL.of eh, by rw [atI_map, z]; rfl, ?_⟩
      exact q2 _ H1 k1 (by rw [← ep]; exact r1.pool) (by unfold Rep; rfl)
  · exact q.elim
def wrPool (j : Int) (m : Int) (k : M Fl) : M Fl := fun p => match p with
  | some ds => (match ixN ds.length j with
    | some n => k (some (ds.set n (.int m)))
    | none => .bad)
  | none => .bad
def sPool (i : Nat) (g f : DEnv → M D) (ε : DEnv) : M Fl := if isPool i ε then sx ε (f ε) fun d => liftO (asI d) >>= fun m => sx ε (g ε) fun y => liftO (asI y) >>= fun j => wrPool j m (pure (.nx ε)) else M.fail
theorem map_set' {α β : Type} (f : α → β) (l : List α) (n : Nat) (x : α) : (l.map f).set n (f x) = (l.set n x).map f := by
  rw [List.map_set]
/-- pool[b] = a -/
theorem pds_pool {i : Nat} {x : Str} (hN : X.N[i]? = some x) (hv : Vis X.env.scope x) (ha : PD X W own a f) (hb : PD X W own b g)
    (hsub : ∀ v, assign (.Subscript (.Name x p2) b p) X.env v = (do
      let ov ← holding [v] (eval (.Name x p2) X.env)
      let iv ← holding [v, ov] (eval b X.env)
      standAt p
      holding [v, ov, iv] (setItem ov iv v)
      release [v, ov, iv] []) := by intro _; rfl)
    (hd : (x == ("__debug__" : Str)) = false := by decide) (hcd : (x == ("__classdict__" : Str)) = false := by decide) (hs : swapsWithSole [.Subscript (.Name x p2) b p] a pos.line X.env = pure false := by rfl) (hw : swappedStores [.Subscript (.Name x p2) b p] a X.env = pure none := by rfl)
    (h1 : (assignEach [.Subscript (.Name x p2) b p] X.env).map (·.2) = [assign (.Subscript (.Name x p2) b p) X.env] := by rfl) : PDS X W own (.Assign [.Subscript (.Name x p2) b p] a pos) (sPool i g f) :=
  (ps_asg ha (pg_sub (pe_var hN hv hd hcd) hb set_list hsub) hs hw h1).imp fun Z σ H ⟨P, ε, p, rel, q⟩ => by
  unfold sPool at q
  split at q
  · rename_i hp
    refine tD.sxq (k := fun d ε => liftO (asI d) >>= fun m => sx ε (g ε) fun y => liftO (asI y) >>= fun j => wrPool j m (pure (.nx ε))) rel q fun d v H1 p1 k1 r1 rv q1 => ?_
    obtain ⟨m, em, q1'⟩ := Post.lift (Post.thn q1)
    clear q q1
    obtain rfl := asI_some em
    unfold Rep at rv
    subst rv
    obtain ⟨y, e1, ea⟩ := isPool_rel r1 hp
    refine ⟨.ref y, e1, ?_⟩
    refine tD.sxq (k := fun y ε => liftO (asI y) >>= fun j => wrPool j m (pure (.nx ε))) r1 q1' fun d2 v2 H2 p2 k2 r2 rv2 q2 => ?_
    obtain ⟨j, ej, q2'⟩ := Post.lift (Post.thn q2)
    clear q2
    obtain rfl := asI_some ej
    unfold Rep at rv2
    obtain ⟨is, ep, eh⟩ := pool_at r2.pool ea
    unfold wrPool at q2'
    rw [ep] at q2'
    dsimp only at q2'
    rw [List.length_map] at q2'
    cases z : ixN is.length j with
    | none => rw [z] at q2'; exact q2'.elim
    | some n =>
      rw [z] at q2'
      refine ⟨y, is.map V.int, j, n, rfl, rv2, eh, by rw [List.length_map]; exact z, ?_⟩
      rw [map_set']
      have q3 : Post ((pure (Fl.nx ε) : M Fl) (some ((is.map D.int).set n (.int m)))) (FK P own W Z σ H2) NoX := q2'
      rw [map_set'] at q3
      exact q3 σ _ (r2.writeP (is := is.set n m) ea) (Grow.write (.inr (.inl ea)))
  · exact q.elim
end
end DL

end
section
namespace DL
open PySem PySem.Spec L2

section
variable {X : Cx} {W : WX} {own ts : List Nat} {e a b c : Expr} {es : List Expr} {pos p p2 p3 p4 : Pos} {f g h : DEnv → M D} {fs it : DEnv → M (List D)}
/-- pool[b], y = e -/
def sPoolPair (i j : Nat) (g f : DEnv → M D) (ε : DEnv) : M Fl := if isPool i ε then sx ε (f ε) fun d => match d with
  | .tup [.int m, d'] => if d'.free = true then sx ε (g ε) fun y => liftO (asI y) >>= fun n => wrPool n m (pure (.nx (ε.set j (some d')))) else M.fail
  | _ => M.fail
  else M.fail
theorem pds_poolPair {i j : Nat} {x y : Str} {kt : Nat} (hc : X.calm = true) (hND : X.N.Nodup) (hN : X.N[i]? = some x) (hv : Vis X.env.scope x) (hNj : X.N[j]? = some y) (hy : Loc X.env.scope y) (ha : PD X W own a f) (hb : PD X W own b g) (ho : j ∉ own := by decide)
    (hsub : ∀ v, assign (.Subscript (.Name x p2) b p) X.env v = (do
      let ov ← holding [v] (eval (.Name x p2) X.env)
      let iv ← holding [v, ov] (eval b X.env)
      standAt p
      holding [v, ov, iv] (setItem ov iv v)
      release [v, ov, iv] []) := by intro _; rfl)
    (hd : (x == ("__debug__" : Str)) = false := by decide) (hcd : (x == ("__classdict__" : Str)) = false := by decide)
    (hf : X.fn y = true ∨ X.env.scope.names.lookup y = some .local := by first | exact .inl rfl | exact .inr rfl | assumption)
    (hn : (assignEach [.Subscript (.Name x p2) b p, .Name y p3] X.env).length = 2 := by rfl) (hst : (assignEach [.Subscript (.Name x p2) b p, .Name y p3] X.env).findIdx? (·.1) = none := by rfl)
    (hs1 : (assignEach [.Subscript (.Name x p2) b p, .Name y p3] X.env).map (·.2) = assign (.Subscript (.Name x p2) b p) X.env :: (assignEach [.Name y p3] X.env).map (·.2) := by rfl)
    (hs2 : (assignEach [.Name y p3] X.env).map (·.2) = assign (.Name y p3) X.env :: (assignEach [] X.env).map (·.2) := by rfl)
    (hs : swapsWithSole [.Tuple [.Subscript (.Name x p2) b p, .Name y p3] kt p4] a pos.line X.env = pure false := by rfl) (hw : swappedStores [.Tuple [.Subscript (.Name x p2) b p, .Name y p3] kt p4] a X.env = pure none := by rfl)
    (h1 : (assignEach [.Tuple [.Subscript (.Name x p2) b p, .Name y p3] kt p4] X.env).map (·.2) = [assign (.Tuple [.Subscript (.Name x p2) b p, .Name y p3] kt p4) X.env] := by rfl) :
    PDS X W own (.Assign [.Tuple [.Subscript (.Name x p2) b p, .Name y p3] kt p4] a pos) (sPoolPair i j g f) :=
  (ps_asg ha (pg_tup hc (pgs_cons (pg_sub (pe_var hN hv hd hcd) hb set_list hsub) (pgs_cons (pg_name hND hNj hy hf) pgs_nil hs2) hs1) hn hst) hs hw h1).imp fun Z σ H ⟨P, ε, p, rel, q⟩ => by
  unfold sPoolPair at q
  split at q
  · rename_i hp
    refine tD.sxq (k := fun d ε => match d with | .tup [.int m, d'] => if d'.free = true then sx ε (g ε) fun y => liftO (asI y) >>= fun n => wrPool n m (pure (.nx (ε.set j (some d')))) else M.fail | _ => M.fail) rel q fun d v H1 p1 k1 r1 rv q1 => ?_
    clear q
    split at q1
    · rename_i m d'
      split at q1
      · rename_i hfree
        unfold Rep at rv
        obtain ⟨t, vs, rfl, ta, rs⟩ := rv
        obtain ⟨v1, v2, rfl, rv1, rv2⟩ := rs.two
        unfold Rep at rv1
        subst rv1
        refine ⟨t, _, rfl, ta.sq, rfl, _, _, rfl, ?_⟩
        obtain ⟨y, e1, ea⟩ := isPool_rel r1 hp
        refine ⟨.ref y, e1, ?_⟩
        refine tD.sxq (k := fun y ε => liftO (asI y) >>= fun n => wrPool n m (pure (.nx (ε.set j (some d'))))) r1 q1 fun d2 w2 H2 p2 k2 r2 rw2 q2 => ?_
        obtain ⟨n, en, q3⟩ := Post.lift (Post.thn q2)
        clear q2 q1
        obtain rfl := asI_some en
        unfold Rep at rw2
        obtain ⟨is, ep, eh⟩ := pool_at r2.pool ea
        unfold wrPool at q3
        rw [ep] at q3
        dsimp only at q3
        rw [List.length_map] at q3
        cases z : ixN is.length n with
        | none => rw [z] at q3; exact q3.elim
        | some nn =>
          rw [z] at q3
          refine ⟨y, is.map V.int, n, nn, rfl, rw2, eh, by rw [List.length_map]; exact z, _, _, rfl, rfl, ?_⟩
          rw [map_set']
          have q4 : Post ((pure (Fl.nx (ε.set j (some d'))) : M Fl) (some ((is.map D.int).set nn (.int m)))) (FK P own W Z σ H2) NoX := q3
          rw [map_set'] at q4
          have hA : AA P y := ea
          have rw3 : Rep P.g (L0 P) (upd H2 y (.lst ((is.set nn m).map V.int))) d' v2 := by
            refine Rep.mono (L := L0 P) (H := H1) ?_ (fun _ h => .inl h) d' v2 rv2
            exact (k2.weak fun q h => .inr h).trans fun q' u e' n' => by
              rw [upd_ne (by intro z; subst z; exact n' (.inr hA))]
              exact e'
          have r3 := r2.writeP (is := is.set nn m) ea
          exact q4 _ _ (r3.set ho (r3.strong rw3 (.inr hfree))) ((Grow.write (.inr (.inl ea))).trans (Grow.set ho))
      · exact q1.elim
    · exact q1.elim
  · exact q.elim
end

/-! ### calls with keywords -/
/-- how keywords bind: the parameters' values are those at perm of the positional and the keywords' ones -/
structure KwB (K : PySem.W.Frag) (fd : FuncData) (ps : List Str) (n : Nat) (ks : List Str) (perm : List Nat) : Prop where
  to : ∀ (s : Shared) (us ws : List Value), K.In s.heap → us.length = n → ws.length = ks.length → BindsTo s fd ⟨us, ks.zip ws⟩ (ps.zip (perm.filterMap fun i => (us ++ ws)[i]?))
  rng : ∀ i, i ∈ perm → i < n + ks.length
def permD (perm : List Nat) (ds : List D) : List D := perm.filterMap fun i => ds[i]?
theorem vals_perm {vs : List V} {us : List Value} (r : Vals vs us) : ∀ perm : List Nat, Vals (perm.filterMap fun i => vs[i]?) (perm.filterMap fun i => us[i]?)
  | [] => .nil
  | i :: perm => by
    rw [List.filterMap_cons, List.filterMap_cons]
    cases e : vs[i]? with
    | none => rw [Vals.none_of r e]; exact vals_perm r perm
    | some v =>
      obtain ⟨u, eu, ru⟩ := r.get e
      rw [eu]
      exact .cons ru (vals_perm r perm)
theorem reps_perm {g : G} {L : Addr → Prop} {H : Hp} {ds : List D} {vs : List V} (r : Reps g L H ds vs) : ∀ perm : List Nat, Reps g L H (permD perm ds) (perm.filterMap fun i => vs[i]?)
  | [] => Reps.nil
  | i :: perm => by
    unfold permD
    rw [List.filterMap_cons, List.filterMap_cons]
    cases e : ds[i]? with
    | none =>
      have : vs[i]? = none := by
        rw [List.getElem?_eq_none_iff] at e ⊢
        rw [r.length]
        exact e
      rw [this]
      exact reps_perm r perm
    | some d =>
      obtain ⟨v, ev, rv⟩ := r.get e
      rw [ev]
      exact .cons rv (reps_perm r perm)
def dKw (np nk n : Nat) (perm : List Nat) (m : List D → M D) (fs ks : DEnv → M (List D)) (ε : DEnv) : M D := fs ε >>= fun ds => ks ε >>= fun zs => if ds.length = np ∧ zs.length = nk ∧ (permD perm (ds ++ zs)).length = n then m (permD perm (ds ++ zs)) else M.fail
section
variable {X : Cx} {W : WX} {own : List Nat} {e a b c : Expr} {es : List Expr} {pos p p2 p3 kpos : Pos} {fs zs : DEnv → M (List D)} {k n : Nat} {f : Addr} {fd : FuncData} {ps ks : List Str} {nw : Bool} {m : List D → M D} {x : Str} {kws : List Keyword} {perm : List Nat} {nm : Option Str} {fe : DEnv → M D}
abbrev PDK (X : Cx) (W : WX) (own : List Nat) (kws : List Keyword) (f : DEnv → M (List D)) : Prop := PK X kws (tDA X.K X.mg W own f)
theorem _root_.L2.PK.imp {t u : TA} (h : PK X kws t) (i : ∀ σ H Q, u σ H Q → t σ H Q) : PK X kws u := ⟨fun pos pins s σ H Q I q => h.run pos pins s σ H Q I (i σ H Q q)⟩
theorem pdk_nil : PDK X W own [] dNil := pk_nil.imp fun σ H Q ⟨P, ε, p, rel, q⟩ => q [] H (Kp.refl _ _) rel.pool Reps.nil
theorem pdk_cons (ha : PD X W own e fe) (hr : PDK X W own kws fs) : PDK X W own (⟨nm, e, kpos⟩ :: kws) (dCons fe fs) := (pk_cons ha hr).imp fun σ H Q ⟨P, ε, p, rel, q⟩ => by
  refine tD.seq (k := fun x ε => fs ε >>= fun xs => pure (x :: xs)) rel q fun x vx H1 p1 k1 r1 rx q1 => ?_
  refine tDA.seq (k := fun xs _ => pure (x :: xs)) r1 q1 fun xs vs H2 p2 k2 r2 rxs q2 => ?_
  exact q2 (vx :: vs) H2 (k1.trans k2) r2.pool (.cons (Rep.mono (k2.weak fun q h => .inr h) (fun _ h => .inl h) x vx rx) rxs)
theorem run_fnDK {pins : List (Addr × Obj)} {σ : St} {H : Hp} {s : Shared} {Q : VK} {us ws : List Value} {vs ys : List V} (F : FnD X.prog X.w X.K X.mg X.base k f fd ps nw m) (hr : Room k X.A) (hgd : X.A.guards = some []) (hb : KwB X.K fd ps n ks perm) (tk : Takes X W)
    (I : Inv X pins σ H s) (rv : Vals vs us) (rz : Vals ys ws) (l1 : vs.length = n) (l2 : ys.length = ks.length) (h : spD X.K X.mg ps.length nw m (perm.filterMap fun i => (vs ++ ys)[i]?) H Q (WE W σ)) : wpAny (model X.prog X.w) X.A (call (.ref f) us (ks.zip ws)) (EP X pins σ Q) X.xe s := by
  refine wpAny_call (codeAny_mono (F.run X.A X.stack s H ⟨us, ks.zip ws⟩ (perm.filterMap fun i => (us ++ ws)[i]?) _ Q (WE W σ) hr hgd I.env0 (hb.to s us ws I.kIn (rv.length.symm.trans l1) (rz.length.symm.trans l2)) (vals_perm (rv.append rz) perm) h) fun r s' z => ?_)
  cases r with
  | error er => exact passAt tk σ pins H s er s' I z
  | ok fl =>
    cases fl with
    | ret u => exact I.after z
    | next => exact z.elim
    | brk => exact z.elim
    | cont => exact z.elim
theorem kw_reading {P : FP X.K X.mg} {σ : St} {H : Hp} {ε : DEnv} {p : Pool} {Q : VK} (rel : SRel P own σ H ε p) (q : Post (dKw n ks.length ps.length perm m fs zs ε p) (EK P H Q) (XKx P σ H W)) :
    tDA X.K X.mg W own fs σ H fun vs H1 => tDA X.K X.mg W own zs σ H1 fun ys H2 => vs.length = n ∧ ys.length = ks.length ∧ spD X.K X.mg ps.length nw m (perm.filterMap fun i => (vs ++ ys)[i]?) H2 Q (WE W σ) := by
  refine tDA.seq (k := fun ds ε => zs ε >>= fun zs => if ds.length = n ∧ zs.length = ks.length ∧ (permD perm (ds ++ zs)).length = ps.length then m (permD perm (ds ++ zs)) else M.fail) rel q fun ds vs H1 p1 k1 r1 rds q1 => ?_
  refine tDA.seq (k := fun zs _ => if ds.length = n ∧ zs.length = ks.length ∧ (permD perm (ds ++ zs)).length = ps.length then m (permD perm (ds ++ zs)) else M.fail) r1 q1 fun zs ys H2 p2 k2 r2 rzs q2 => ?_
  clear q q1
  split at q2
  · rename_i hl
    have rds2 : Reps P.g (L0 P) H2 ds vs := Reps.mono (k2.weak fun q h => .inr h) (fun _ h => .inl h) ds vs rds
    exact ⟨by rw [rds.length]; exact hl.1, by rw [rzs.length]; exact hl.2.1, spD_of r2 (reps_perm (rds2.append rzs) perm) hl.2.2 (q2.mono (fun _ _ z => z.shift (k1.trans k2)) fun _ _ _ z => z)⟩
  · exact q2.elim
/-- f(k = v, ..) -/
theorem pd_callKw0 (C : Cal X k x f fd ps nw m) (hb : KwB X.K fd ps 0 ks perm) (hr : Room k X.A) (hgd : X.A.guards = some []) (tk : Takes X W) (hkw : PDK X W own kws zs) (hg : Gl X x := by rfl) (hall : (backToKw pos (keywordEach kws X.env)).all (·.1.isSome) = true := by rfl) (hks : (backToKw pos (keywordEach kws X.env)).filterMap (·.1) = ks := by rfl)
    (hdb : (x == ("__debug__" : Str)) = false := by decide) (hpl : ((backTo pos (starEach [] X.env)).any (·.1) || (backToKw pos (keywordEach kws X.env)).any (·.1.isNone)) = false := by rfl) :
    PD X W own (.Call (.Name x p) [] kws pos) (dKw 0 ks.length ps.length perm m dNil zs) := by
  refine ⟨fun pins s σ H Q I ⟨P, ε, p, rel, q⟩ => ?_⟩
  obtain ⟨P', ε', p', rel', q'⟩ := kw_reading (ks := ks) (ps := ps) (nw := nw) (fs := dNil) rel q
  have q2 := q' [] H (Kp.refl _ _) rel'.pool Reps.nil
  refine wpAny_Call_Name_kw (ld_glob I hg C.mg ?_ hdb)
  refine PySem.W.callWith_KW0 (h₀ := X.base) I.ok.mod.kin C.kp hall (thn (hkw.run pos pins s σ H _ I q2) fun ws s2 ⟨ys, H2, I2, rz, l1, l2, z⟩ => ⟨I2.kIn, ?_⟩) hpl
  rw [hks]
  exact run_fnDK C.fn hr hgd hb tk I2 .nil rz l1 l2 z
/-- f(e, .., k = v, ..) -/
theorem pd_callKw (C : Cal X k x f fd ps nw m) (hb : KwB X.K fd ps n ks perm) (hr : Room k X.A) (hgd : X.A.guards = some []) (tk : Takes X W) (ha : PDA X W own (e :: es) fs) (hkw : PDK X W own kws zs) (hg : Gl X x := by rfl) (hall : (backToKw pos (keywordEach kws X.env)).all (·.1.isSome) = true := by rfl) (hks : (backToKw pos (keywordEach kws X.env)).filterMap (·.1) = ks := by rfl)
    (hdb : (x == ("__debug__" : Str)) = false := by decide) (he : starEach (e :: es) X.env = (false, eval e X.env) :: starEach es X.env := by rfl) (hpl : ((backTo pos (starEach (e :: es) X.env)).any (·.1) || (backToKw pos (keywordEach kws X.env)).any (·.1.isNone)) = false := by rfl) :
    PD X W own (.Call (.Name x p) (e :: es) kws pos) (dKw n ks.length ps.length perm m fs zs) := by
  refine ⟨fun pins s σ H Q I ⟨P, ε, p, rel, q⟩ => ?_⟩
  have rd := kw_reading (ks := ks) (ps := ps) (nw := nw) rel q
  refine wpAny_Call_Name_kw (ld_glob I hg C.mg ?_ hdb)
  refine PySem.W.callWith_KW (h₀ := X.base) I.ok.mod.kin C.kp hall (thn (ha.run pos pins s σ H _ I rd) fun us s1 ⟨vs, H1, I1, rv, q1⟩ => ?_) hpl he
  refine thn (hkw.run pos pins s1 σ H1 _ I1 q1) fun ws s2 ⟨ys, H2, I2, rz, l1, l2, z⟩ => ⟨I2.kIn, ?_⟩
  rw [hks]
  exact run_fnDK C.fn hr hgd hb tk I2 rv rz l1 l2 z
end

/-! ### a def that hands back a new list; a def that is handed a new pool -/
def runN (b : DEnv → M Fl) (n : Nat) (ds : List D) : M D := runB b n ds
section
variable {K : PySem.W.Frag} {mg : Str → Option Value}
/-- data without the pool are the same, whatever the pool is -/
theorem reg_all {a a' : Option Addr} {L : Addr → Prop} {H : Hp} : ∀ n : Nat, (∀ (d : D) (v : V), sizeOf d ≤ n → d.free = true → Rep ⟨K, mg, a⟩ L H d v → Rep ⟨K, mg, a'⟩ L H d v) ∧ ∀ (ds : List D) (vs : List V), sizeOf ds ≤ n → D.frees ds = true → Reps ⟨K, mg, a⟩ L H ds vs → Reps ⟨K, mg, a'⟩ L H ds vs := by
  intro n
  induction n with
  | zero =>
    refine ⟨fun d v hs => ?_, fun ds vs hs => ?_⟩
    · cases d <;> simp at hs
    · cases ds <;> simp at hs
  | succ n ih =>
    refine ⟨fun d v hs hf h => ?_, fun ds vs hs hf h => ?_⟩
    · cases d <;> unfold D.free at hf <;> try cases hf
      all_goals (unfold Rep at h ⊢)
      all_goals try exact h
      · rename_i ds
        obtain ⟨q, vs, e, t, r⟩ := h
        refine ⟨q, vs, e, t, ih.2 ds vs ?_ hf r⟩
        simp at hs
        omega
    · cases ds with
      | nil => unfold Reps at h ⊢; exact h
      | cons d ds =>
        unfold D.frees at hf
        rw [Bool.and_eq_true] at hf
        unfold Reps at h ⊢
        obtain ⟨v, r, e, h1, h2⟩ := h
        simp at hs
        exact ⟨v, r, e, ih.1 d v (by omega) hf.1 h1, ih.2 ds r (by omega) hf.2 h2⟩
theorem Rep.reg {a a' : Option Addr} {L : Addr → Prop} {H : Hp} {d : D} {v : V} (hf : d.free = true) (h : Rep ⟨K, mg, a⟩ L H d v) : Rep ⟨K, mg, a'⟩ L H d v := (reg_all (sizeOf d)).1 d v (Nat.le_refl _) hf h
end
def withPool (is : List D) (m : M D) : M D := fun p => match m (some is) with
  | .ok d _ => if d.free = true then .ok d p else .bad
  | _ => .bad
theorem withPool_post {is : List D} {m : M D} {p : Pool} {k : D → Pool → Prop} {x : Str → Option (Str × D) → Pool → Prop} (h : Post (withPool is m p) k x) : ∃ d p', m (some is) = .ok d p' ∧ d.free = true ∧ k d p := by
  unfold withPool at h
  cases e : m (some is) with
  | bad => rw [e] at h; exact h.elim
  | ex c d p' => rw [e] at h; exact h.elim
  | ok d p' =>
    rw [e] at h
    dsimp only at h
    split at h
    · rename_i hf
      exact ⟨d, p', rfl, hf, h⟩
    · exact h.elim
def dCallPool (n n' : Nat) (m m' : List D → M D) (fs : DEnv → M (List D)) (ε : DEnv) : M D := fs ε >>= fun ds => if ds.length = n' ∧ n = 1 then m' ds >>= fun d => (match d with
  | .lst is => (match asIs is with
    | some ns => withPool (ns.map D.int) (m [.pool])
    | none => M.fail)
  | _ => M.fail) else M.fail
section
variable {X : Cx} {W : WX} {own : List Nat} {e a b c : Expr} {es : List Expr} {pos p p2 p3 pos2 : Pos} {fs : DEnv → M (List D)} {k k2 : Nat} {f f2 : Addr} {fd fd2 : FuncData} {ps ps2 : List Str} {nw : Bool} {m m2 : List D → M D} {x x2 : Str}
theorem pd_callPool (C : Cal X k x f fd ps nw m) (C2 : Cal X k2 x2 f2 fd2 ps2 true m2) (hr : Room k X.A) (hr2 : Room k2 X.A) (hgd : X.A.guards = some []) (tk : Takes X W) (ha : PDA X W own (e :: es) fs) (hg : Gl X x := by rfl) (hg2 : Gl X x2 := by rfl) (hdb : (x == ("__debug__" : Str)) = false := by decide) (hdb2 : (x2 == ("__debug__" : Str)) = false := by decide)
    (he2 : starEach (e :: es) X.env = (false, eval e X.env) :: starEach es X.env := by rfl) (hpl2 : (backTo pos2 (starEach es X.env)).any (·.1) = false := by rfl)
    (he : starEach [.Call (.Name x2 p2) (e :: es) [] pos2] X.env = (false, eval (.Call (.Name x2 p2) (e :: es) [] pos2) X.env) :: starEach [] X.env := by rfl) (hpl : (backTo pos (starEach [] X.env)).any (·.1) = false := by rfl) :
    PD X W own (.Call (.Name x p) [.Call (.Name x2 p2) (e :: es) [] pos2] [] pos) (dCallPool ps.length ps2.length m m2 fs) := by
  refine ⟨fun pins s σ H Q I ⟨P, ε, p, rel, q⟩ => ?_⟩
  -- the inner call, with what is wanted behind it
  have inner : PE X (.Call (.Name x2 p2) (e :: es) [] pos2) (fun σ H R => tDA X.K X.mg W own fs σ H fun vs H1 => spD X.K X.mg ps2.length true m2 vs H1 R (WE W σ)) := by
    refine ⟨fun pins s σ H R I h => ?_⟩
    refine wpAny_Call_Name_kw (ld_glob I hg2 C2.mg ?_ hdb2)
    refine PySem.W.callWith_K (h₀ := X.base) I.ok.mod.kin C2.kp (thn (ha.run pos2 pins s σ H _ I h) fun us s1 ⟨vs, H1, I1, rv, z⟩ => ⟨I1.kIn, ?_⟩) he2 hpl2
    exact run_fnD C2.fn hr2 hgd C2.bd tk I1 rv z
  have rd : tDA X.K X.mg W own fs σ H (fun vs H1 => spD X.K X.mg ps2.length true m2 vs H1 (fun v H2 => spD X.K X.mg ps.length nw m [v] H2 Q (WE W σ)) (WE W σ)) := by
    refine tDA.seq (k := fun ds _ => if ds.length = ps2.length ∧ ps.length = 1 then m2 ds >>= fun d => (match d with | .lst is => (match asIs is with | some ns => withPool (ns.map D.int) (m [.pool]) | none => M.fail) | _ => M.fail) else M.fail) rel q fun ds vs H1 p1 k1 r1 rds q1 => ?_
    clear q
    split at q1
    · rename_i hl
      refine ⟨{ P with H0 := H1 }, ds, p1, by rw [rds.length, hl.1], rfl, r1.there, r1.apart, r1.pool, rds, (Post.thn q1).mono (fun d p2 q2 v H2 k2 po2 rv nv => ?_) fun c d p' z cv dx H' a b => z cv dx H' a b⟩
      have k2' : Kp (AA P) H1 H2 := k2
      split at q2
      · rename_i is
        cases es : asIs is with
        | none => rw [es] at q2; exact q2.elim
        | some ns =>
          rw [es] at q2
          obtain ⟨y, rfl, hy⟩ := nv rfl
          unfold Rep at rv
          obtain ⟨y', ws, e1, ⟨ny, ey⟩, rs⟩ := rv
          cases e1
          have ews := asIs_reps es rs
          subst ews
          have r2 : SRel P own σ H2 ε p2 := r1.step k2' po2
          have nL : ∀ z, L0 P z → z ≠ y := fun z hz e => r1.there z hz (by rw [e]; exact hy)
          refine ⟨{ a := some y, F := L0 P, H0 := H2 }, [.pool], some (ns.map D.int), by rw [hl.2]; rfl, rfl, fun z hz => ?_, fun z hz hA => ?_, ⟨ns, rfl, ey⟩, .cons ?_ .nil, ?_⟩
          · rcases hz with hz | hz
            · exact r2.there z hz
            · have hz' : some y = some z := hz
              cases hz'
              rw [ey]
              exact fun w => nomatch w
          · have hz' : some y = some z := hA
            cases hz'
            exact nL _ hz rfl
          · unfold Rep
            exact ⟨y, rfl, rfl⟩
          · have q3 : Post (withPool (ns.map D.int) (m [.pool]) p2) (EK P H Q) (XKx P σ H1 W) := q2
            obtain ⟨d, p', em, hf, q4⟩ := withPool_post q3
            rw [em]
            intro v H' k3 po3 rv3 _
            have k3' : ∀ q o, H2 q = some o → q ≠ y → H' q = some o := fun q o e n => k3 q o e fun z => n (Option.some.inj z).symm
            have kH : Kp (AA P) H1 H' := fun q o e n => by
              have ny : q ≠ y := fun z => by rw [z, hy] at e; cases e
              exact k3' q o (k2' q o e n) ny
            refine q4 v H' (k1.trans kH) ?_ ?_
            · have po := r2.pool
              unfold PoolOk at po ⊢
              split at po
              · trivial
              · rename_i ea
                obtain ⟨is', e1, h⟩ := po
                exact ⟨is', e1, k3' _ _ h (nL _ (.inr ea))⟩
              · exact po.elim
            · exact Rep.mono (Kp.refl _ _) (fun q h => .inl (.inl h)) d v (Rep.reg hf rv3)
      · exact q2.elim
    · exact q1.elim
  refine wpAny_Call_Name_kw (ld_glob I hg C.mg ?_ hdb)
  refine PySem.W.callWith_K (h₀ := X.base) I.ok.mod.kin C.kp (thn ((pa_cons inner pa_nil he).run pos pins s σ H (fun vs H2 => spD X.K X.mg ps.length nw m vs H2 Q (WE W σ)) I rd) fun us s1 ⟨vs, H1, I1, rv, z⟩ => ⟨I1.kIn, ?_⟩) he hpl
  exact run_fnD C.fn hr hgd C.bd tk I1 rv z
end
end DL

end
section
namespace DL
open PySem PySem.Spec L2

/-- statements, then a new list handed back -/
def seqT (K : PySem.W.Frag) (mg : Str → Option Value) (W : WX) (own : List Nat) : List (DEnv → M Fl) → TS → TS
  | [], last => last
  | m :: ms, last => tSeq (tS K mg W own m) (seqT K mg W own ms last)
def seqN (fs : DEnv → M (List D)) : List (DEnv → M Fl) → DEnv → M (List D)
  | [], ε => fs ε
  | m :: ms, ε => m ε >>= fun fl => match fl with
    | .nx ε' => seqN fs ms ε'
    | _ => M.fail
def runNew (ms : List (DEnv → M Fl)) (fs : DEnv → M (List D)) (n : Nat) (ds : List D) : M D := noEx (seqN fs ms (ds.map some ++ List.replicate (n - ds.length) none) >>= fun xs => liftO (lstO xs))
section
variable {K : PySem.W.Frag} {mg : Str → Option Value} {P : FP K mg} {own : List Nat} {W : WX} {fs : DEnv → M (List D)} {Z : Ends}
theorem seqT_reading : ∀ (ms : List (DEnv → M Fl)) {σ : St} {H : Hp} {ε : DEnv} {p : Pool}, SRel P own σ H ε p →
    Post (seqN fs ms ε p) (fun xs p' => ∀ d, lstO xs = some d → ∀ q H', Kp (AA P) P.H0 H' → PoolOk P.g H' p' → P.H0 q = none → Rep P.g (L0 P) H' d (.ref q) → Z.rt (.ref q) H') NoX →
    Post (seqN fs ms ε p) (fun xs p' => (lstO xs).isSome = true) NoX → seqT K mg W own ms (tRet (tLst (tDA K mg W own fs))) Z σ H
  | [], σ, H, ε, p, r, q, q2 => by
    have q : Post (fs ε p) (fun xs p' => ∀ d, lstO xs = some d → ∀ q H', Kp (AA P) P.H0 H' → PoolOk P.g H' p' → P.H0 q = none → Rep P.g (L0 P) H' d (.ref q) → Z.rt (.ref q) H') NoX := q
    have q2 : Post (fs ε p) (fun xs p' => (lstO xs).isSome = true) NoX := q2
    refine ⟨P, ε, p, r, ?_⟩
    cases e : fs ε p with
    | bad => rw [e] at q; exact q.elim
    | ex c d p' => rw [e] at q; exact q.elim
    | ok xs p' =>
      rw [e] at q q2
      obtain ⟨d, ed⟩ := Option.isSome_iff_exists.mp q2
      intro vs H1 k1 po1 rs
      have r1 := r.step k1 po1
      have hl : xs.length ≤ 10000 ∧ d = .lst xs := by
        unfold lstO at ed
        split at ed
        · rename_i h; cases ed; exact ⟨h, rfl⟩
        · cases ed
      obtain ⟨hl, rfl⟩ := hl
      have := line10
      have := rs.length
      refine ⟨by omega, fun t ht => q _ ed t _ (r1.keep.trans (Kp.new ht)) (r1.pool.kp (same_new ht)) (r1.new0 ht) (Rep.lst_new r1.there ht rs)⟩
  | m :: ms, σ, H, ε, p, r, q, q2 => by
    have q : Post ((m ε >>= fun fl => match fl with | .nx ε' => seqN fs ms ε' | _ => M.fail) p) _ _ := q
    have q2 : Post ((m ε >>= fun fl => match fl with | .nx ε' => seqN fs ms ε' | _ => M.fail) p) _ _ := q2
    have q' := Post.thn q
    have q2' := Post.thn q2
    refine ⟨P, ε, p, r, ?_⟩
    cases e : m ε p with
    | bad => rw [e] at q'; exact q'.elim
    | ex c d p' => rw [e] at q'; exact q'.elim
    | ok fl p' =>
      rw [e] at q' q2'
      cases fl with
      | nx ε' => exact fun σ' H' r' g' => seqT_reading ms r' q' q2'
      | rt d => exact q'.elim
      | bk ε' => exact q'.elim
      | ct ε' => exact q'.elim
      | xc c d ε' => exact q'.elim
end
section
variable {Pr : Program} {w : World} {K : PySem.W.Frag} {mg : Str → Option Value} {base : Heap}
theorem fnD_new {x qual : Str} {st : Stmt} {f : Addr} {fd : FuncData} {N ps : List Str} {k : Nat} {ms : List (DEnv → M Fl)} {fs : DEnv → M (List D)} (F : Fun K x qual st f fd) (S : FnScope N ps (defScope st))
    (hb : ∀ (cd : Value) (A : Around) (outer : List PySem.Env) (s : Shared) (H : Hp) (E : XK), Room k (A.deeper (PyProof.Rows.envOfC qual (defScope st) s.heap.objs.size f cd)) → A.guards = some [] →
      PSs (cxOf (L2.CX Pr w) Pr w K mg base N qual (defScope st) f cd A outer s H E) (defBody st) (seqT K mg (fun cls d _ H' => E cls d H') [] ms (tRet (tLst (tDA K mg (fun cls d _ H' => E cls d H') [] fs))))) :
    FnD Pr w K mg base (k + 1) f fd ps true (runNew ms fs N.length) := by
  obtain ⟨oc, od, kV, doc, pm, an, cd, ct, osl, rfl, lk, hcd⟩ := F.ex
  refine ⟨fun A outer s H args us vs Q E hr hgd e0 hbind rv hsp => ?_⟩
  obtain ⟨P, ds, p, hlen, rfl, hL, hap, po, rds, post⟩ := hsp
  have inK : K.In s.heap := e0.mod.kin.keeps fun b o z => (e0.bs b o z).1
  have noLim : s.heap.NoLimit := e0.mod.nolimit.keeps fun b o z => (e0.bs b o z).1
  have hN : vs.length ≤ N.length := by
    have := congrArg List.length S.pre
    rw [List.length_take] at this
    omega
  have rel := srel_start (own := []) (N := N) (fun i hi => by cases hi) hN hL hap po rds
  have kinds : ∀ y ∈ ps.zip us, (defScope st).names.lookup y.1 = some .local ∨ ((defScope st).names.lookup y.1 = some .cell ∧ ((cellsFrom (s.heap.objs.size + 1) (defScope st).names []).lookup y.1).isSome = true) := by
    rintro ⟨nm, u⟩ hy
    exact (S.par nm (List.of_mem_zip hy).1).imp id fun z => ⟨z, PySem.W.cellsFrom_some _ _ _ (.inl z)⟩
  refine codeAny_call_function hr.depth (inK _ _ lk) rfl S.co S.gen rfl (PySem.W.codeRec_of inK hcd) (hbind _ _ _ _ ?_)
  refine wpAny_newFunctionEnv_cells S.kind kinds fun env hen s1 hin => ?_
  subst hen
  refine ⟨noLim.keeps hin.toInCall.keep, codeAny_func ?_⟩
  have J : Inv (cxOf (L2.CX Pr w) Pr w K mg base N qual (defScope st) f cd A outer s P.H0 E) [] (L2.start N vs) P.H0 s1 := inv_start S hr.hd e0 hlen rv hin
  have body := hb cd A outer s P.H0 E (hr.deeper _) hgd
  have reading : seqT K mg (fun cls d _ H' => E cls d H') [] ms (tRet (tLst (tDA K mg (fun cls d _ H' => E cls d H') [] fs))) { nx := fun _ H' => Q .non H', rt := Q } (L2.start N vs) P.H0 := by
    have q1 := noEx_post (x' := NoX) post
    have q2 := Post.thn q1
    refine seqT_reading ms rel (q2.mono (fun xs p' z d ed q H' k1 po1 hq rv1 => ?_) fun _ _ _ z => z) (q2.mono (fun xs p' z => ?_) fun _ _ _ z => z)
    · rw [ed] at z
      exact z (.ref q) H' k1 po1 rv1 fun _ => ⟨q, rfl, hq⟩
    · obtain ⟨d, ed, _⟩ := Post.lift z
      rw [ed]
      rfl
  refine wpAny_mono (body.run [] s1 (L2.start N vs) P.H0 _ J reading) (fun fl s' hs => ?_) fun _ _ z => z
  cases fl with
  | ret u =>
    obtain ⟨v, σ', H', J', rv', q⟩ := hs
    exact ⟨v, H', J'.os, J'.bare, J'.base, J'.hok, rv', q⟩
  | next =>
    obtain ⟨σ', H', J', q⟩ := hs
    exact ⟨.non, H', J'.os, J'.bare, J'.base, J'.hok, rfl, q⟩
  | brk =>
    obtain ⟨_, _, _, q⟩ := hs
    exact q.elim
  | cont =>
    obtain ⟨_, _, _, q⟩ := hs
    exact q.elim
end

/-! ### the law's end -/
theorem reps_ints {g : G} {L : Addr → Prop} {H : Hp} : ∀ ns : List Int, Reps g L H (ns.map D.int) (ns.map V.int)
  | [] => Reps.nil
  | n :: ns => by
    rw [List.map_cons, List.map_cons]
    exact .cons (by unfold Rep; rfl) (reps_ints ns)
theorem law_run {Pr : Program} {w : World} {K : PySem.W.Frag} {mg mb : Str → Option Value} {k : Nat} {fa a : Addr} {fd : FuncData} {x : Str} {m : List D → M D} {s : Shared} {vs : List Value} {ns : List Int}
    (hK : K.In s.heap) (hG : s.heap.Ns mainGlobals mg) (hB : s.heap.Ns builtinsNs mb) (hBB : ∀ x : Str, x ≠ "__name__" → mb x = bootBuiltins x) (hlim : s.heap.NoLimit) (hgens : s.gens = #[])
    (ha : s.heap.get? a = some { cls := .type "list", data := .seq vs.toArray }) (hi : PyProof.Rows.IntsAre vs ns) (hl : ns.length ≤ sizeLine) (hr : Room k callerA)
    (F : ∀ base : Heap, K.In base → base.Ns mainGlobals mg → FnD Pr w K mg base k fa fd [x] false m) (hbind : ∀ (s : Shared) (u : Value), BindsTo s fd ⟨[u], []⟩ [(x, u)])
    (hm : m [.rol (ns.map D.int)] none = .ok (.bl true) none) :
    codeAny (model Pr w) callerA (.call (.ref fa) ⟨[.ref a], []⟩) (fun r s' => r = .ok (.ret (.bool true)) ∧ OldK s.heap s'.heap ∧ s'.os = s.os ∧ PyProof.Rows.AllBare s'.gens) s := by
  have rv := vals_ints hi
  have lenV := hi.length
  have main : ∀ H : Hp, Only H → RolAt K (fun _ => False) H a (ns.map V.int) → HOk Pr w H s.heap → (∀ b, H b ≠ none → b = a) → (H a ≠ none → K.lookup a = none) →
      codeAny (model Pr w) callerA (.call (.ref fa) ⟨[.ref a], []⟩) (fun r s' => r = .ok (.ret (.bool true)) ∧ OldK s.heap s'.heap ∧ s'.os = s.os ∧ PyProof.Rows.AllBare s'.gens) s := by
    intro H hO hS hok hA hKa
    have dictNone : ∀ {b : Addr} {o : Obj} {es : Array DictEntry} {ep : Nat}, s.heap.get? b = some o → o.data = .dict es ep → H b = none := fun {b o es ep} e d => by
      cases q : H b with
      | none => rfl
      | some u =>
        obtain rfl : b = a := hA b (by rw [q]; simp)
        rw [ha] at e
        cases e
        cases (show Data.seq vs.toArray _ = Data.dict es ep from d)
    have nsB : ∀ {b : Addr} {m : Str → Option Value}, s.heap.Ns b m → (hidT s.heap H).Ns b m := fun {b m} ⟨o, es, ep, e, d, z⟩ => ⟨o, es, ep, hidT_get e (dictNone e d), d, z⟩
    have inB : K.In (hidT s.heap H) := fun b o e => hidT_get (hK b o e) (by
      cases q : H b with
      | none => rfl
      | some u =>
        obtain rfl : b = a := hA b (by rw [q]; simp)
        rw [hKa (by rw [q]; simp)] at e
        cases e)
    have md : Mod K mg (hidT s.heap H) := ⟨inB, nsB hG, ⟨mb, nsB hB, hBB⟩, let ⟨mc, z1, z2⟩ := hlim; ⟨mc, nsB z1, z2⟩⟩
    have e0 : Env0 Pr w K mg (hidT s.heap H) callerA [] s H := ⟨rfl, md, fun b o e => of_hidT e, Nat.le_of_eq (hidT_size _ _), trivial, fun b hb => absurd (show b ∈ ([] : List Addr) from hb) (by simp), hok, .of_eq hgens⟩
    have sp : spD K mg 1 false m [.ref a] H (fun v _ => v = .bl true) fun _ _ _ => False := by
      refine ⟨{ a := none, F := fun _ => False, H0 := H }, [.rol (ns.map D.int)], none, rfl, rfl, fun q hq => ?_, fun q hq => hq.elim, trivial, .cons ?_ .nil, ?_⟩
      · rcases hq with hq | hq
        · exact hq.elim
        · cases hq
      · unfold Rep
        refine ⟨a, ns.map V.int, rfl, ?_, reps_ints ns⟩
        rcases hS with ⟨_, h⟩ | h
        · refine .inl ⟨fun z => ?_, h⟩
          rcases z with z | z
          · exact z
          · cases z
        · exact .inr h
      · rw [hm]
        intro v H' _ _ rv _
        unfold Rep at rv
        exact rv
    refine codeAny_mono ((F _ inB (nsB hG)).run callerA [] s H ⟨[.ref a], []⟩ [.ref a] [.ref a] _ _ hr rfl e0 (hbind s (.ref a)) (.cons rfl .nil) sp) fun r s' z => ?_
    cases r with
    | error e =>
      obtain ⟨_, _, _, _, _, _, _, _, _, _, _, _, z⟩ := z
      exact z.elim
    | ok fl =>
      cases fl with
      | next => exact False.elim z
      | brk => exact False.elim z
      | cont => exact False.elim z
      | ret u =>
        obtain ⟨v, H', os, bare, un, hok', ru, q⟩ := z
        obtain rfl : v = .bl true := q
        obtain rfl : u = Value.bool true := ru
        refine ⟨rfl, OldK.of_keep fun b o e => ?_, os, bare⟩
        cases q : H b with
        | none => exact un.keep b o e q (by intro z; exact absurd (show b ∈ ([] : List Addr) from z) (by simp)) (by simp)
        | some u =>
          rcases hO b with z | ⟨ob, xs, z⟩
          · rw [q] at z; cases z
          · obtain ⟨e1, _⟩ := hok b _ z
            obtain ⟨e2, _⟩ := hok' b _ (un.frzs b ob _ z)
            rw [e] at e1
            cases e1
            exact e2
  cases hk : K.lookup a with
  | some o =>
    have e := hK a o hk
    rw [ha] at e
    cases e
    exact main (fun _ => none) (fun _ => .inl rfl) (.inr (.inr ⟨_, vs.toArray, _, hk, rfl, rfl, rfl, by rw [List.size_toArray, lenV]; exact hl, by simpa using rv⟩)) (fun b u z => nomatch (show (none : Option HO) = some u from z)) (fun b z => absurd rfl z) fun z => absurd rfl z
  | none =>
    refine main (fun b => if b = a then some (.frz { cls := .type "list", data := .seq vs.toArray } (.lst (ns.map V.int))) else none) (fun b => ?_) (.inl ⟨id, .inr ⟨{ cls := .type "list", data := .seq vs.toArray }, if_pos rfl⟩⟩) (fun b u z => ?_) (fun b z => ?_) fun _ => hk
    · by_cases hb : b = a
      · exact .inr ⟨_, _, if_pos hb⟩
      · exact .inl (if_neg hb)
    · by_cases hb : b = a
      · cases (if_pos hb).symm.trans z
        subst hb
        exact ⟨ha, by rw [List.length_map]; exact hl, vs, _, rv, ha⟩
      · cases (if_neg hb).symm.trans z
    · by_cases hb : b = a
      · exact hb
      · exact absurd (if_neg hb) z
/-- what k_head leaves, from the law's function of data -/
theorem walk_D {l : PySem.W.OpenLaw} {n k : Nat} {q : Program} {loose : List Str} {XP : (Str → Option Value) → Heap → Prop} {YP : World → Heap → Prop} {d : DefRec} {K : Params → PySem.W.Frag} {m : List D → M D} {x : Str}
    (hn : l.most = some n) (hn2 : n ≤ sizeLine) (hdf : d.params.defaults = []) (hr : Room k callerA) (hY : ∀ (w : World) (h : Heap), YP w h → (K w.params).In h)
    (F : ∀ (w : World) (mg : Str → Option Value) (fa : Addr) (h : Heap), (K w.params).In h → h.Ns mainGlobals mg → mg d.name = some (.ref fa) →
      ∃ fd : FuncData, (∀ (s : Shared) (u : Value), BindsTo s fd ⟨[u], []⟩ [(x, u)]) ∧ ∀ base : Heap, (K w.params).In base → base.Ns mainGlobals mg → FnD l.prog w (K w.params) mg base k fa fd [x] false m)
    (hm : ∀ ns : List Int, ns.length ≤ n → m [.rol (ns.map D.int)] none = .ok (.bl true) none) : PySem.W.WalkO q loose XP YP l.row.toRowW d [] (fun f vs => PySem.call f vs) := by
  refine Att.attach_call hn hdf fun w s₀ s mg mb fa o pm cd doc a vs ns gr Y _ _ _ hmg hobj hints hlen hgens => ?_
  have hK := hY w _ Y
  obtain ⟨fd, hb, hF⟩ := F w mg fa _ hK gr.T.g hmg
  exact law_run hK gr.T.g gr.T.b gr.T.builtins gr.T.nolimit hgens hobj hints (Nat.le_trans hlen hn2) hr hF hb (hm ns hlen)
end DL

end
section
namespace DL
open PySem PySem.Spec L2

/-! ### repr, str -/
def okR (d : D) : Bool := sh 20 d && (toPy d).showable && decide ((toPy d).shown.length ≤ 1000000)
def reprD : List D → Option D
  | [d] => if okR d = true then some (.str (toPy d).shown) else none
  | _ => none
def strD : List D → Option D
  | [.int i] => if i.natAbs.log2 < 1920 then some (.str (toString i)) else none
  | [.str x] => some (.str x)
  | _ => none
def rRepr (K : PySem.W.Frag) : List V → Hp → VK → Prop := fun xs H Q => ∃ v d, xs = [v] ∧ Dp K H v d ∧ d.showable = true ∧ d.hasDict = false ∧ d.depth ≤ 40 ∧ d.shown.length ≤ 1000000 ∧ Q (.str d.shown) H
theorem line1m : 1000000 ≤ sizeLine := by rw [sizeLine_eq]; decide
theorem vone {v : V} {us : List Value} (r : Vals [v] us) : ∃ u, us = [u] ∧ RelV v u := by
  cases r with
  | cons a b => cases b; exact ⟨_, rfl, a⟩
theorem call_reprD {X : Cx} (hgd : X.A.guards = some []) (hu : X.A.units + 65 < cLine) : CallR X (.builtin "repr") (rRepr X.K) := by
  intro pins s σ H xs us Q I r h
  obtain ⟨v, d, rfl, hd, hs, hh, hp, hz, q⟩ := h
  obtain ⟨u, rfl, ru⟩ := vone r
  have l1 := line1m
  obtain ⟨as, rd⟩ := Dp.reads I d v u hd ru
  cases hd with
  | non => cases ru; exact PySem.P.repr_of_none ⟨.str _, H, I.tok _, ⟨_, rfl⟩, q⟩
  | bl b => cases ru; exact PySem.P.repr_of_bool ⟨.str _, H, I.tok _, ⟨_, rfl⟩, q⟩
  | int i =>
    obtain ⟨t, rfl⟩ := ru
    refine PySem.P.repr_of_int (by simpa [PyData.showable] using hs) ⟨.str _, H, I.tok _, ⟨_, rfl⟩, q⟩
  | str x =>
    obtain ⟨t, rfl⟩ := ru
    have hz' : (reprText x).length ≤ 1000000 := by simpa only [PyData.shown] using hz
    exact PySem.P.repr_of_str ⟨.str _, H, I.tok _, ⟨_, rfl⟩, q⟩ (by omega)
  | lst h1 h2 =>
    cases ru
    exact PySem.repr_of_reads' rd hs (fun z => by rw [hh] at z; cases z) hgd (by omega) (fun b o e => e) (fun h' u tk hk => ⟨.str _, H, I.kept (t' := tk) hk, ⟨_, rfl⟩, q⟩) (by omega)
  | tup h1 h2 =>
    cases ru
    exact PySem.repr_of_reads' rd hs (fun z => by rw [hh] at z; cases z) hgd (by omega) (fun b o e => e) (fun h' u tk hk => ⟨.str _, H, I.kept (t' := tk) hk, ⟨_, rfl⟩, q⟩) (by omega)
theorem noDict_all {n : Nat} (ih : ∀ d, sh n d = true → (toPy d).hasDict = false) : ∀ ds : List D, ds.all (sh n) = true → PyData.hasDictAll (toPys ds) = false
  | [], _ => rfl
  | d :: ds, h => by
    rw [List.all_cons, Bool.and_eq_true] at h
    show ((toPy d).hasDict || PyData.hasDictAll (toPys ds)) = false
    rw [ih d h.1, noDict_all ih ds h.2]
    rfl
theorem noDict_sh : ∀ (n : Nat) (d : D), sh n d = true → (toPy d).hasDict = false := by
  intro n
  induction n with
  | zero =>
    intro d s
    cases d <;> simp only [sh] at s <;> first | rfl | cases s
  | succ n ih =>
    intro d s
    cases d <;> simp only [sh] at s <;> first | rfl | (exact noDict_all ih _ s) | cases s
section
variable {K : PySem.W.Frag} {mg : Str → Option Value}
theorem o_repr : OpN K mg (rRepr K) reprD := by
  intro a L H xs d vs Q hL r e q
  unfold reprD at e
  split at e
  · split at e
    · rename_i d0 h
      cases e
      obtain ⟨v, rfl, rv⟩ := r.one
      unfold okR at h
      rw [Bool.and_eq_true, Bool.and_eq_true] at h
      obtain ⟨⟨h1, h2⟩, h3⟩ := h
      obtain ⟨p1, p2⟩ := toPy_plain 20 d0 h1
      exact ⟨v, toPy d0, rfl, Rep.dp 20 d0 v h1 rv, h2, noDict_sh 20 d0 h1, by omega, of_decide_eq_true h3, q _ H (Same.refl H) (by unfold Rep; rfl)⟩
    · cases e
  · cases e
theorem o_str : OpN K mg (fun xs H Q => (∃ i, xs = [.int i] ∧ i.natAbs.log2 < 1920 ∧ Q (.str (toString i)) H) ∨ ∃ a, xs = [.str a] ∧ Q (.str a) H) strD := by
  intro a L H xs d vs Q hL r e q
  unfold strD at e
  split at e
  · split at e
    · rename_i i h
      cases e
      obtain ⟨v, rfl, rv⟩ := r.one
      unfold Rep at rv
      exact .inl ⟨_, by rw [rv], h, q _ H (Same.refl H) (by unfold Rep; rfl)⟩
    · cases e
  · cases e
    obtain ⟨v, rfl, rv⟩ := r.one
    unfold Rep at rv
    exact .inr ⟨_, by rw [rv], q _ H (Same.refl H) (by unfold Rep; rfl)⟩
  · cases e
/-- is True, is False -/
def isB2 (neg : Bool) : D → D → Option D
  | .bl a, .bl b => some (.bl (if neg then !decide (a = b) else decide (a = b)))
  | _, _ => none
theorem o_isB : Op2 K mg rIsB (isB2 false) := by
  intro a L H x y d vx vy Q hL rx ry e q
  cases x <;> cases y <;> simp only [isB2] at e <;> cases e
  unfold Rep at rx ry
  exact ⟨_, _, rx, ry, q _ H (Same.refl H) (by unfold Rep; rfl)⟩
theorem o_notB : Op2 K mg rNotB (isB2 true) := by
  intro a L H x y d vx vy Q hL rx ry e q
  cases x <;> cases y <;> simp only [isB2] at e <;> cases e
  unfold Rep at rx ry
  exact ⟨_, _, rx, ry, q _ H (Same.refl H) (by unfold Rep; rfl)⟩
theorem Reps.three {g : G} {L : Addr → Prop} {H : Hp} {d e f : D} {vs : List V} (h : Reps g L H [d, e, f] vs) : ∃ v w u, vs = [v, w, u] ∧ Rep g L H d v ∧ Rep g L H e w ∧ Rep g L H f u := by
  unfold Reps at h
  obtain ⟨v, r, rfl, h1, h2⟩ := h
  obtain ⟨w, u, rfl, h3, h4⟩ := Reps.two h2
  exact ⟨v, w, u, rfl, h1, h3, h4⟩
end
section
variable {X : Cx} {W : WX} {own : List Nat} {e a b c : Expr} {es : List Expr} {pos p p2 p3 : Pos} {f g h : DEnv → M D} {fs : DEnv → M (List D)}
theorem pd_repr (hgd : X.A.guards = some []) (hu : X.A.units + 65 < cLine) (hm : X.mg "repr" = none) (ha : PDA X W own (e :: es) fs) (hg : Gl X "repr" := by rfl) (he : starEach (e :: es) X.env = (false, eval e X.env) :: starEach es X.env := by rfl) (hpl : (backTo pos (starEach es X.env)).any (·.1) = false := by rfl) :
    PD X W own (.Call (.Name "repr" p) (e :: es) [] pos) (dA reprD fs) := pd_callB (call_reprD hgd hu) o_repr hm (by rfl) ha hg (by decide) (by decide) he hpl
theorem pd_str1 (hm : X.mg "str" = none) (ha : PDA X W own (e :: es) fs) (hg : Gl X "str" := by rfl) (he : starEach (e :: es) X.env = (false, eval e X.env) :: starEach es X.env := by rfl) (hpl : (backTo pos (starEach es X.env)).any (·.1) = false := by rfl) :
    PD X W own (.Call (.Name "str" p) (e :: es) [] pos) (dA strD fs) := pd_callTy (call_str_int.or SkE.call_str_str) o_str hm (by rfl) ha hg (by decide) (by decide) he hpl
theorem pd_isB (ha : PD X W own a f) (hb : PD X W own b g) : PD X W own (.Compare a [.Is] [b] pos) (d2 (isB2 false) f g) := pd_cmp op_isBl o_isB ha hb (nomark _)
theorem pd_notB (ha : PD X W own a f) (hb : PD X W own b g) : PD X W own (.Compare a [.IsNot] [b] pos) (d2 (isB2 true) f g) := pd_cmp op_notBl o_notB ha hb (nomark _)
/-- {} -/
theorem pd_dct0 : PD X W own (.Dict [] [] pos) (dC (.dct [] [])) := pe_dnewK.imp fun σ H Q ⟨P, ε, p, r, q⟩ t ht => by
  refine q (.ref t) _ (Kp.new ht) (r.pool.kp (same_new ht)) ?_
  unfold Rep
  exact ⟨t, [], rfl, fun z => r.there t z ht, upd_same, Reps.nil, Reps.nil⟩
/-- a, b, c = x, y, z -/
def sPar3 (chk : Bool) (i j l : Nat) (fs : DEnv → M (List D)) (ε : DEnv) : M Fl := sx ε (fs ε) fun ds => match ds with
  | [d, d', d''] => if ((!chk || d.free) && (!chk || d'.free) && (!chk || d''.free)) = true then pure (.nx (((ε.set i (some d)).set j (some d')).set l (some d''))) else M.fail
  | _ => M.fail
theorem pds_par3 {i j l : Nat} {x y z : Str} {px py pz pt : Pos} {kt k2 pt2} (chk : Bool) (hc : X.calm = true) (hN : X.N.Nodup) (hi : X.N[i]? = some x) (hj : X.N[j]? = some y) (hl : X.N[l]? = some z) (hij : i ≠ j) (hil : i ≠ l) (hjl : j ≠ l)
    (hx : X.env.scope.names.lookup x = some .local) (hy : X.env.scope.names.lookup y = some .local) (hz : X.env.scope.names.lookup z = some .local) (ha : PDA X W own [a, b, c] fs)
    (hw : swappedStores [.Tuple [.Name x px, .Name y py, .Name z pz] kt pt] (.Tuple [a, b, c] k2 pt2) X.env = pure (some [x, y, z])) (ho : i ∉ own := by decide) (ho2 : j ∉ own := by decide) (ho3 : l ∉ own := by decide) (hw2 : own = [] ∨ chk = true := by first | exact .inl rfl | exact .inr rfl)
    (hs : swapsWithSole [.Tuple [.Name x px, .Name y py, .Name z pz] kt pt] (.Tuple [a, b, c] k2 pt2) pos.line X.env = pure false := by rfl) :
    PDS X W own (.Assign [.Tuple [.Name x px, .Name y py, .Name z pz] kt pt] (.Tuple [a, b, c] k2 pt2) pos) (sPar3 chk i j l fs) := (ps_par3 hc hN hi hj hl hij hil hjl hx hy hz ha hw hs).imp fun Z σ H ⟨P, ε, p, r, q⟩ => by
  refine tDA.sxq (k := fun ds ε => match ds with | [d, d', d''] => if ((!chk || d.free) && (!chk || d'.free) && (!chk || d''.free)) = true then pure (Fl.nx (((ε.set i (some d)).set j (some d')).set l (some d''))) else M.fail | _ => M.fail) r q fun xs vs H1 p1 k1 r1 rx q1 => ?_
  split at q1
  · split at q1
    · rename_i d d' d'' hc
      rw [Bool.and_eq_true, Bool.and_eq_true] at hc
      obtain ⟨v, w, u, rfl, h1, h2, h3⟩ := rx.three
      have r2 := r1.set ho (r1.strong h1 (chk_or hw2 hc.1.1))
      have r3 := r2.set ho2 (r2.strong h2 (chk_or hw2 hc.1.2))
      exact ⟨v, w, u, rfl, q1 _ H1 (r3.set ho3 (r3.strong h3 (chk_or hw2 hc.2))) (((Grow.set ho).trans (Grow.set ho2)).trans (Grow.set ho3))⟩
    · exact q1.elim
  · exact q1.elim
end
end DL

end
section
namespace DL
open PySem PySem.Spec L2
theorem _root_.L2.Room.u64 {k : Nat} {A : Around} (r : Room k A) : A.units + 64 < cLine := by have := r.un; omega
theorem _root_.L2.Room.u65 {k : Nat} {A : Around} (r : Room k A) : A.units + 65 < cLine := by have := r.un; omega
/-- a while's measure: the number in the i-th slot -/
def wS (i k : Nat) (ε : DEnv) : Nat := match ε[i]? with
  | some (some (.int n)) => n.natAbs + k
  | _ => 0
section
variable {K : PySem.W.Frag} {mg : Str → Option Value}
theorem _root_.L2.Fun.kwb {x qual : Str} {st : Stmt} {f : Addr} {fd : FuncData} {ps ks : List Str} {n : Nat} {perm : List Nat} (F : Fun K x qual st f fd)
    (h : ∀ (kV doc pm : Value) (an : Option Addr) (cdv ct : Value) (us ws : List Value), us.length = n → ws.length = ks.length → bindArgs (PySem.W.fnOf x qual (defArgs st) (defBody st) (defScope st) .none kV doc pm an cdv ct) ⟨us, ks.zip ws⟩ = pure (ps.zip (perm.filterMap fun i => (us ++ ws)[i]?)))
    (hr : ∀ i, i ∈ perm → i < n + ks.length) : KwB K fd ps n ks perm := by
  obtain ⟨oc, od, kV, doc, pm, an, cdv, ct, osl, rfl, lk, hcd⟩ := F.ex
  exact ⟨fun s us ws _ h1 h2 => .of_eq (h kV doc pm an cdv ct us ws h1 h2), hr⟩
end
section
variable {X : Cx} {W : WX} {own : List Nat} {e a b c : Expr} {pos p3 : Pos} {f g h : DEnv → M D}
theorem pdt_isN {j} (ha : PD X W own a f) : PDT X W own (.Compare a [.Is] [.Constant .none j p3] pos) (dB (dIsN false f)) := (pt_cmpR op_isN ha pe_non (nomark _)).imp fun σ H Q ⟨P, ε, p, rel, q⟩ => by
  have q0 := Post.thn q
  refine tD.seq (k := fun x _ => pure (isN false x) >>= fun y => liftO (asB y)) rel (by
    have : (dB (dIsN false f) ε : M Bool) = (f ε >>= fun x => pure (isN false x) >>= fun y => liftO (asB y)) := by
      show ((f ε >>= fun x => pure (isN false x)) >>= fun y => liftO (asB y)) = _
      exact M.thn_assoc _ _ _
    rw [← this]; exact q) fun x vx H1 p1 k1 r1 rx q1 => ?_
  obtain ⟨c, e, q1⟩ := Post.lift (show Post (liftO (asB (isN false x)) p1) _ _ from q1)
  have z := (isN_rep (L' := L0 P) (H' := H1) rx).1
  rw [asB_some e] at z
  unfold Rep at z
  exact ⟨rfl, decide (vx = .non), rfl, by cases z; exact q1 H1 k1 r1.pool⟩
theorem pdt_notN {j} (ha : PD X W own a f) : PDT X W own (.Compare a [.IsNot] [.Constant .none j p3] pos) (dB (dIsN true f)) := (pt_cmpR op_notN ha pe_non (nomark _)).imp fun σ H Q ⟨P, ε, p, rel, q⟩ => by
  refine tD.seq (k := fun x _ => pure (isN true x) >>= fun y => liftO (asB y)) rel (by
    have : (dB (dIsN true f) ε : M Bool) = (f ε >>= fun x => pure (isN true x) >>= fun y => liftO (asB y)) := by
      show ((f ε >>= fun x => pure (isN true x)) >>= fun y => liftO (asB y)) = _
      exact M.thn_assoc _ _ _
    rw [← this]; exact q) fun x vx H1 p1 k1 r1 rx q1 => ?_
  obtain ⟨c, e, q1⟩ := Post.lift (show Post (liftO (asB (isN true x)) p1) _ _ from q1)
  have z := (isN_rep (L' := L0 P) (H' := H1) rx).2
  rw [asB_some e] at z
  unfold Rep at z
  exact ⟨rfl, !decide (vx = .non), rfl, by cases z; exact q1 H1 k1 r1.pool⟩
end
end DL

end
section
namespace DL
open PySem PySem.Spec L2
/-- what a caller has to know of a def, by the parts -/
structure CalF (Pr : Program) (w : World) (K : PySem.W.Frag) (mg : Str → Option Value) (base : Heap) (k : Nat) (x : Str) (f : Addr) (fd : FuncData) (ps : List Str) (nw : Bool) (m : List D → M D) : Prop where
  fn : FnD Pr w K mg base k f fd ps nw m
  mg : mg x = some (.ref f)
  kp : PySem.W.keepIn K (.ref f) = true
  bd : Binds K fd ps []
section
variable {X : Cx} {W : WX} {own : List Nat} {e a b c : Expr} {es : List Expr} {pos p p2 p3 pos2 : Pos} {f g h : DEnv → M D} {fs zs : DEnv → M (List D)} {kws : List Keyword}
theorem pd_v {i : Nat} {x : Str} (hN : X.N[i]? = some x := by rfl) (hv : Vis X.env.scope x := by first | exact Or.inl rfl | exact Or.inr (Or.inl rfl) | exact Or.inr (Or.inr rfl)) (hd : (x == ("__debug__" : Str)) = false := by decide) (hcd : (x == ("__classdict__" : Str)) = false := by decide) :
    PD X W own (.Name x pos) (dVar i) := pd_var hN hv hd hcd
theorem pd_p {i : Nat} {x : Str} (hb : PD X W own b g) (hN : X.N[i]? = some x := by rfl) (hv : Vis X.env.scope x := by first | exact Or.inl rfl | exact Or.inr (Or.inl rfl) | exact Or.inr (Or.inr rfl)) (hd : (x == ("__debug__" : Str)) = false := by decide) (hcd : (x == ("__classdict__" : Str)) = false := by decide) (hs : PlainIx b := by intro _ _; rfl) :
    PD X W own (.Subscript (.Name x p2) b pos) (dPool i g) := pd_pool hN hv hb hd hcd hs
variable {k k' kk kk' n n' nk : Nat} {fa fa2 : Addr} {fd fd2 : FuncData} {ps ps2 ks : List Str} {nw : Bool} {m m2 : List D → M D} {x x2 : Str} {perm : List Nat}
theorem pd_c (C : CalF X.prog X.w X.K X.mg X.base k x fa fd ps nw m) (hr : Room k' X.A) (hgd : X.A.guards = some []) (tk : Takes X W) (ha : PDA X W own (e :: es) fs) (hk : k ≤ k' := by decide) (hn : ps.length = n := by rfl) (hg : Gl X x := by rfl) (hdb : (x == ("__debug__" : Str)) = false := by decide)
    (he : starEach (e :: es) X.env = (false, eval e X.env) :: starEach es X.env := by rfl) (hpl : (backTo pos (starEach es X.env)).any (·.1) = false := by rfl) : PD X W own (.Call (.Name x p) (e :: es) [] pos) (dCall n m fs) := by
  subst hn
  exact pd_call ⟨C.fn, C.mg, C.kp, C.bd⟩ (hr.mono hk) hgd tk ha hg hdb he hpl
theorem pd_c0 (C : CalF X.prog X.w X.K X.mg X.base k x fa fd ps nw m) (hr : Room k' X.A) (hgd : X.A.guards = some []) (tk : Takes X W) (hk : k ≤ k' := by decide) (hn : ps.length = n := by rfl) (hg : Gl X x := by rfl) (hdb : (x == ("__debug__" : Str)) = false := by decide) : PD X W own (.Call (.Name x p) [] [] pos) (dCall n m dNil) := by
  subst hn
  exact pd_call0 ⟨C.fn, C.mg, C.kp, C.bd⟩ (hr.mono hk) hgd tk hg hdb
theorem pd_k0 (C : CalF X.prog X.w X.K X.mg X.base k x fa fd ps nw m) (hb : KwB X.K fd ps 0 ks perm) (hr : Room k' X.A) (hgd : X.A.guards = some []) (tk : Takes X W) (hkw : PDK X W own kws zs) (hk : k ≤ k' := by decide) (hn : ps.length = n := by rfl) (hnk : ks.length = nk := by rfl) (hg : Gl X x := by rfl) (hall : (backToKw pos (keywordEach kws X.env)).all (·.1.isSome) = true := by rfl) (hks : (backToKw pos (keywordEach kws X.env)).filterMap (·.1) = ks := by rfl)
    (hdb : (x == ("__debug__" : Str)) = false := by decide) (hpl : ((backTo pos (starEach [] X.env)).any (·.1) || (backToKw pos (keywordEach kws X.env)).any (·.1.isNone)) = false := by rfl) :
    PD X W own (.Call (.Name x p) [] kws pos) (dKw 0 nk n perm m dNil zs) := by
  subst hn hnk
  exact pd_callKw0 ⟨C.fn, C.mg, C.kp, C.bd⟩ hb (hr.mono hk) hgd tk hkw hg hall hks hdb hpl
theorem pd_k (C : CalF X.prog X.w X.K X.mg X.base k x fa fd ps nw m) (hb : KwB X.K fd ps n' ks perm) (hr : Room k' X.A) (hgd : X.A.guards = some []) (tk : Takes X W) (ha : PDA X W own (e :: es) fs) (hkw : PDK X W own kws zs) (hk : k ≤ k' := by decide) (hn : ps.length = n := by rfl) (hnk : ks.length = nk := by rfl) (hg : Gl X x := by rfl) (hall : (backToKw pos (keywordEach kws X.env)).all (·.1.isSome) = true := by rfl) (hks : (backToKw pos (keywordEach kws X.env)).filterMap (·.1) = ks := by rfl)
    (hdb : (x == ("__debug__" : Str)) = false := by decide) (he : starEach (e :: es) X.env = (false, eval e X.env) :: starEach es X.env := by rfl) (hpl : ((backTo pos (starEach (e :: es) X.env)).any (·.1) || (backToKw pos (keywordEach kws X.env)).any (·.1.isNone)) = false := by rfl) :
    PD X W own (.Call (.Name x p) (e :: es) kws pos) (dKw n' nk n perm m fs zs) := by
  subst hn hnk
  exact pd_callKw ⟨C.fn, C.mg, C.kp, C.bd⟩ hb (hr.mono hk) hgd tk ha hkw hg hall hks hdb he hpl
theorem pd_cP (C : CalF X.prog X.w X.K X.mg X.base k x fa fd ps nw m) (C2 : CalF X.prog X.w X.K X.mg X.base kk x2 fa2 fd2 ps2 true m2) (hr : Room k' X.A) (hgd : X.A.guards = some []) (tk : Takes X W) (ha : PDA X W own (e :: es) fs) (hk : k ≤ k' := by decide) (hk2 : kk ≤ k' := by decide) (hn : ps.length = n := by rfl) (hn2 : ps2.length = n' := by rfl) (hg : Gl X x := by rfl) (hg2 : Gl X x2 := by rfl) (hdb : (x == ("__debug__" : Str)) = false := by decide) (hdb2 : (x2 == ("__debug__" : Str)) = false := by decide)
    (he2 : starEach (e :: es) X.env = (false, eval e X.env) :: starEach es X.env := by rfl) (hpl2 : (backTo pos2 (starEach es X.env)).any (·.1) = false := by rfl)
    (he : starEach [.Call (.Name x2 p2) (e :: es) [] pos2] X.env = (false, eval (.Call (.Name x2 p2) (e :: es) [] pos2) X.env) :: starEach [] X.env := by rfl) (hpl : (backTo pos (starEach [] X.env)).any (·.1) = false := by rfl) :
    PD X W own (.Call (.Name x p) [.Call (.Name x2 p2) (e :: es) [] pos2] [] pos) (dCallPool n n' m m2 fs) := by
  subst hn hn2
  exact pd_callPool ⟨C.fn, C.mg, C.kp, C.bd⟩ ⟨C2.fn, C2.mg, C2.kp, C2.bd⟩ (hr.mono hk) (hr.mono hk2) hgd tk ha hg hg2 hdb hdb2 he2 hpl2 he hpl
end
end DL

end
section
namespace DL
open PySem PySem.Spec L2
/-! ### how the functions of data are worked out -/
def Out.thn {α β : Type} (o : Out α) (f : α → Pool → Out β) : Out β := match o with
  | .ok a p => f a p
  | .ex c d p => .ex c d p
  | .bad => .bad
@[simp] theorem ok_thn {α β : Type} (a : α) (p : Pool) (f : α → Pool → Out β) : (Out.ok a p).thn f = f a p := rfl
@[simp] theorem ex_thn {α β : Type} (c : Str) (d : Option (Str × D)) (p : Pool) (f : α → Pool → Out β) : (Out.ex c d p).thn f = .ex c d p := rfl
@[simp] theorem bad_thn {α β : Type} (f : α → Pool → Out β) : (Out.bad : Out α).thn f = .bad := rfl
def Out.sx {α : Type} (o : Out α) (ε : DEnv) (f : α → Pool → Out Fl) : Out Fl := match o with
  | .ok a p => f a p
  | .ex c d p => .ok (.xc c d ε) p
  | .bad => .bad
@[simp] theorem ok_sx {α : Type} (a : α) (p : Pool) (ε : DEnv) (f : α → Pool → Out Fl) : (Out.ok a p).sx ε f = f a p := rfl
@[simp] theorem ex_sx {α : Type} (c : Str) (d : Option (Str × D)) (p : Pool) (ε : DEnv) (f : α → Pool → Out Fl) : (Out.ex c d p : Out α).sx ε f = .ok (.xc c d ε) p := rfl
@[simp] theorem bad_sx {α : Type} (ε : DEnv) (f : α → Pool → Out Fl) : (Out.bad : Out α).sx ε f = .bad := rfl
theorem bind_thn {α β : Type} (m : M α) (f : α → M β) (p : Pool) : (m >>= f) p = (m p).thn fun a p' => f a p' := rfl
@[simp] theorem pure_M {α : Type} (a : α) : (pure a : M α) = fun p => .ok a p := rfl
@[simp] theorem bind_M {α β : Type} (m : M α) (f : α → M β) : (m >>= f) = fun p => (m p).thn fun a p' => f a p' := rfl
@[simp] theorem fail_ap {α : Type} (p : Pool) : (M.fail : M α) p = .bad := rfl
def Out.ofO {α : Type} (o : Option α) (p : Pool) : Out α := match o with
  | some a => .ok a p
  | none => .bad
@[simp] theorem lift_ap {α : Type} (o : Option α) (p : Pool) : liftO o p = Out.ofO o p := rfl
@[simp] theorem ofO_some {α : Type} (a : α) (p : Pool) : Out.ofO (some a) p = .ok a p := rfl
@[simp] theorem ofO_none {α : Type} (p : Pool) : (Out.ofO none p : Out α) = .bad := rfl
@[simp] theorem sx_ap' {α : Type} (ε : DEnv) (m : M α) (k : α → M Fl) (p : Pool) : DL.sx ε m k p = (m p).sx ε fun a p' => k a p' := rfl
@[simp] theorem ite_ap {α : Type} {c : Prop} [Decidable c] (m n : M α) (p : Pool) : (if c then m else n) p = if c then m p else n p := by split <;> rfl
def wrP (j m : Int) (k : Pool → Out Fl) (p : Pool) : Out Fl := match p with
  | some ds => (match ixN ds.length j with
    | some n => k (some (ds.set n (.int m)))
    | none => .bad)
  | none => .bad
section
variable (ε : DEnv) (p : Pool) (f g h : DEnv → M D) (fb gb : DEnv → M Bool) (fs gs : DEnv → M (List D))
@[simp] theorem dVar_ap (i : Nat) : dVar i ε p = Out.ofO (ε[i]?.bind id) p := rfl
@[simp] theorem dC_ap (d : D) : dC d ε p = .ok d p := rfl
@[simp] theorem d2_ap (o : D → D → Option D) : d2 o f g ε p = (f ε p).thn fun x p => (g ε p).thn fun y p => Out.ofO (o x y) p := rfl
@[simp] theorem d1_ap (o : D → Option D) : d1 o f ε p = (f ε p).thn fun x p => Out.ofO (o x) p := rfl
@[simp] theorem dA_ap (o : List D → Option D) : dA o fs ε p = (fs ε p).thn fun x p => Out.ofO (o x) p := rfl
@[simp] theorem dNil_ap : dNil ε p = .ok [] p := rfl
@[simp] theorem dCons_ap : dCons f fs ε p = (f ε p).thn fun x p => (fs ε p).thn fun xs p => .ok (x :: xs) p := rfl
@[simp] theorem dB_ap : dB f ε p = (f ε p).thn fun x p => Out.ofO (asB x) p := rfl
@[simp] theorem dNot_ap : dNot fb ε p = (fb ε p).thn fun c p => .ok (!c) p := rfl
@[simp] theorem dAnd_ap : dAnd fb gb ε p = (fb ε p).thn fun c p => if c then gb ε p else .ok false p := by
  show (fb ε p).thn (fun c p' => (if c then gb ε else pure false) p') = _
  congr; funext c p'; cases c <;> rfl
@[simp] theorem dOr_ap : dOr fb gb ε p = (fb ε p).thn fun c p => if c then .ok true p else gb ε p := by
  show (fb ε p).thn (fun c p' => (if c then pure true else gb ε) p') = _
  congr; funext c p'; cases c <;> rfl
@[simp] theorem dNotV_ap : dNotV f ε p = (f ε p).thn fun x p => (Out.ofO (asB x) p).thn fun c p => .ok (.bl (!c)) p := rfl
@[simp] theorem dAndV_ap : dAndV f g ε p = (f ε p).thn fun x p => (Out.ofO (asB x) p).thn fun c p => if c then g ε p else .ok (.bl false) p := by
  show (f ε p).thn (fun x p' => (Out.ofO (asB x) p').thn fun c p'' => (if c then g ε else pure (.bl false)) p'') = _
  congr; funext x p'; congr; funext c p''; cases c <;> rfl
@[simp] theorem dOrV_ap : dOrV f g ε p = (f ε p).thn fun x p => (Out.ofO (asB x) p).thn fun c p => if c then .ok (.bl true) p else g ε p := by
  show (f ε p).thn (fun x p' => (Out.ofO (asB x) p').thn fun c p'' => (if c then pure (D.bl true) else g ε) p'') = _
  congr; funext x p'; congr; funext c p''; cases c <;> rfl
@[simp] theorem dIte_ap : dIte fb f g ε p = (fb ε p).thn fun c p => if c then f ε p else g ε p := by
  show (fb ε p).thn (fun c p' => (if c then f ε else g ε) p') = _
  congr; funext c p'; cases c <;> rfl
@[simp] theorem dIsN_ap (neg : Bool) : dIsN neg f ε p = (f ε p).thn fun x p => .ok (isN neg x) p := rfl
@[simp] theorem dChain_ap (o o' : D → D → Option D) : dChain o o' f g h ε p = (f ε p).thn fun x p => (g ε p).thn fun y p => (Out.ofO (o x y) p).thn fun z p => (Out.ofO (asB z) p).thn fun c p => if c then (h ε p).thn fun w p => Out.ofO (o' y w) p else .ok (.bl false) p := by
  show (f ε p).thn (fun x p => (g ε p).thn fun y p => (Out.ofO (o x y) p).thn fun z p => (Out.ofO (asB z) p).thn fun c p => (if c then h ε >>= fun w => liftO (o' y w) else pure (.bl false) : M D) p) = _
  congr; funext x p; congr; funext y p; congr; funext z p; congr; funext c p; cases c <;> rfl
@[simp] theorem dSl_ap (lo hi : DEnv → M (Option Int)) : dSl f lo hi ε p = (f ε p).thn fun d p => (lo ε p).thn fun l p => (hi ε p).thn fun h p => Out.ofO (slD l h d) p := rfl
@[simp] theorem oNone_ap : oNone ε p = .ok none p := rfl
@[simp] theorem oSome_ap : oSome f ε p = (f ε p).thn fun d p => (Out.ofO (asI d) p).thn fun i p => .ok (some i) p := rfl
@[simp] theorem iSeq_ap : iSeq f ε p = (f ε p).thn fun d p => Out.ofO (seqO d) p := rfl
@[simp] theorem iSeqF_ap : iSeqF f ε p = (f ε p).thn fun d p => Out.ofO (seqF d) p := rfl
@[simp] theorem iO_ap (o : List D → Option (List D)) : iO o fs ε p = (fs ε p).thn fun ds p => Out.ofO (o ds) p := rfl
@[simp] theorem dCall_ap (n : Nat) (m : List D → M D) : dCall n m fs ε p = (fs ε p).thn fun ds p => if ds.length = n then m ds p else .bad := by
  show (fs ε p).thn (fun ds p' => (if ds.length = n then m ds else M.fail) p') = _
  congr; funext ds p'; split <;> rfl
@[simp] theorem dKw_ap (np nk n : Nat) (perm : List Nat) (m : List D → M D) : dKw np nk n perm m fs gs ε p = (fs ε p).thn fun ds p => (gs ε p).thn fun zs p => if ds.length = np ∧ zs.length = nk ∧ (permD perm (ds ++ zs)).length = n then m (permD perm (ds ++ zs)) p else .bad := by
  show (fs ε p).thn (fun ds p' => (gs ε p').thn fun zs p'' => (if ds.length = np ∧ zs.length = nk ∧ (permD perm (ds ++ zs)).length = n then m (permD perm (ds ++ zs)) else M.fail) p'') = _
  congr; funext ds p'; congr; funext zs p''; split <;> rfl
@[simp] theorem dPool_ap (i : Nat) : dPool i g ε p = if isPool i ε = true then (g ε p).thn fun y p => (Out.ofO (asI y) p).thn fun j p => rdPool j p else .bad := by
  unfold dPool
  split <;> rfl
@[simp] theorem dLc_ap (it : DEnv → M (List D)) (vs : List Nat) (t : Pat) : dLc it vs t fb f ε p = (it ε p).thn fun ds p => if ds.length ≤ 10000 then (noEx (lcM t fb f ds (wipeE ε vs)) p).thn fun ys p => .ok (.lst ys) p else .bad := by
  show (it ε p).thn (fun ds p' => (if ds.length ≤ 10000 then noEx (lcM t fb f ds (wipeE ε vs)) >>= fun ys => pure (D.lst ys) else M.fail : M D) p') = _
  congr; funext ds p'; split <;> rfl
variable (m n : DEnv → M Fl)
@[simp] theorem sNil_ap : sNil ε p = .ok (.nx ε) p := rfl
@[simp] theorem sRet_ap : sRet f ε p = (f ε p).sx ε fun d p => .ok (.rt d) p := rfl
@[simp] theorem sRetN_ap : sRetN ε p = .ok (.rt .non) p := rfl
@[simp] theorem sBrk_ap : sBrk ε p = .ok (.bk ε) p := rfl
@[simp] theorem sCont_ap : sCont ε p = .ok (.ct ε) p := rfl
@[simp] theorem sDrop_ap : sDrop f ε p = (f ε p).sx ε fun d p => .ok (.nx ε) p := rfl
@[simp] theorem sNever_ap : sNever ε p = .bad := rfl
/-- behind a statement -/
def Out.nxt (o : Out Fl) (f : DEnv → Pool → Out Fl) : Out Fl := match o with
  | .ok (.nx ε) p => f ε p
  | o => o
@[simp] theorem nxt_nx (f : DEnv → Pool → Out Fl) : (Out.ok (.nx ε) p).nxt f = f ε p := rfl
@[simp] theorem nxt_rt (d : D) (f : DEnv → Pool → Out Fl) : (Out.ok (.rt d) p).nxt f = .ok (.rt d) p := rfl
@[simp] theorem nxt_bk (f : DEnv → Pool → Out Fl) : (Out.ok (.bk ε) p).nxt f = .ok (.bk ε) p := rfl
@[simp] theorem nxt_ct (f : DEnv → Pool → Out Fl) : (Out.ok (.ct ε) p).nxt f = .ok (.ct ε) p := rfl
@[simp] theorem nxt_xc (c : Str) (d : Option (Str × D)) (f : DEnv → Pool → Out Fl) : (Out.ok (.xc c d ε) p).nxt f = .ok (.xc c d ε) p := rfl
@[simp] theorem nxt_bad (f : DEnv → Pool → Out Fl) : (Out.bad).nxt f = .bad := rfl
theorem nxt_ite (c : Prop) [Decidable c] (a b : Out Fl) (f : DEnv → Pool → Out Fl) : (if c then a else b).nxt f = if c then a.nxt f else b.nxt f := by split <;> rfl
@[simp] theorem sSeq_ap : sSeq m n ε p = (m ε p).nxt fun ε p => n ε p := by
  unfold sSeq
  rw [bind_thn]
  cases m ε p with
  | ok a p' => cases a <;> rfl
  | ex c d p' => rfl
  | bad => rfl
@[simp] theorem sIf_ap : sIf fb m n ε p = (fb ε p).sx ε fun c p => if c then m ε p else n ε p := by
  show (fb ε p).sx ε (fun c p' => (if c then m ε else n ε) p') = _
  congr; funext c p'; cases c <;> rfl
@[simp] theorem sSet_ap (chk : Bool) (i : Nat) : sSet chk i f ε p = (f ε p).sx ε fun d p => if (!chk || d.free) = true then .ok (.nx (ε.set i (some d))) p else .bad := by
  show (f ε p).sx ε (fun d p' => (if (!chk || d.free) = true then pure (.nx (ε.set i (some d))) else M.fail) p') = _
  congr; funext c p'; split <;> rfl
def par2 (chk : Bool) (i j : Nat) (ε : DEnv) : List D → Pool → Out Fl
  | [d, d'], p => if ((!chk || d.free) && (!chk || d'.free)) = true then .ok (.nx ((ε.set i (some d)).set j (some d'))) p else .bad
  | _, _ => .bad
@[simp] theorem sPar_ap (chk : Bool) (i j : Nat) : sPar chk i j fs ε p = (fs ε p).sx ε fun ds p => par2 chk i j ε ds p := by
  unfold sPar
  rw [sx_ap']
  congr; funext ds p'
  match ds with
  | [] => rfl
  | [_] => rfl
  | [d, d'] => show (if _ then _ else _ : M Fl) p' = _; unfold par2; dsimp only; split <;> rfl
  | _ :: _ :: _ :: _ => rfl
@[simp] theorem par2_ap (chk : Bool) (i j : Nat) (d d' : D) : par2 chk i j ε [d, d'] p = if ((!chk || d.free) && (!chk || d'.free)) = true then .ok (.nx ((ε.set i (some d)).set j (some d'))) p else .bad := rfl
def par3 (chk : Bool) (i j l : Nat) (ε : DEnv) : List D → Pool → Out Fl
  | [d, d', d''], p => if ((!chk || d.free) && (!chk || d'.free) && (!chk || d''.free)) = true then .ok (.nx (((ε.set i (some d)).set j (some d')).set l (some d''))) p else .bad
  | _, _ => .bad
@[simp] theorem sPar3_ap (chk : Bool) (i j l : Nat) : sPar3 chk i j l fs ε p = (fs ε p).sx ε fun ds p => par3 chk i j l ε ds p := by
  unfold sPar3
  rw [sx_ap']
  congr; funext ds p'
  match ds with
  | [] => rfl
  | [_] => rfl
  | [_, _] => rfl
  | [d, d', d''] => show (if _ then _ else _ : M Fl) p' = _; unfold par3; dsimp only; split <;> rfl
  | _ :: _ :: _ :: _ :: _ => rfl
@[simp] theorem par3_ap (chk : Bool) (i j l : Nat) (d d' d'' : D) : par3 chk i j l ε [d, d', d''] p = if ((!chk || d.free) && (!chk || d'.free) && (!chk || d''.free)) = true then .ok (.nx (((ε.set i (some d)).set j (some d')).set l (some d''))) p else .bad := rfl
@[simp] theorem sAsg_ap (t : Pat) : sAsg t f ε p = (f ε p).sx ε fun d p => (Out.ofO (t d ε) p).thn fun ε' p => .ok (.nx ε') p := rfl
@[simp] theorem sPool_ap (i : Nat) : sPool i g f ε p = if isPool i ε = true then (f ε p).sx ε fun d p => (Out.ofO (asI d) p).thn fun m p => (g ε p).sx ε fun y p => (Out.ofO (asI y) p).thn fun j p => wrP j m (fun p => .ok (.nx ε) p) p else .bad := by
  unfold sPool
  split <;> rfl
def pp2 (i j : Nat) (g : DEnv → M D) (ε : DEnv) : D → Pool → Out Fl
  | .tup [.int m, d'], p => if d'.free = true then (g ε p).sx ε fun y p => (Out.ofO (asI y) p).thn fun n p => wrP n m (fun p => .ok (.nx (ε.set j (some d'))) p) p else .bad
  | _, _ => .bad
@[simp] theorem sPoolPair_ap (i j : Nat) : sPoolPair i j g f ε p = if isPool i ε = true then (f ε p).sx ε fun d p => pp2 i j g ε d p else .bad := by
  unfold sPoolPair
  split
  · rw [sx_ap']
    congr; funext d p'
    cases d with
    | tup ds =>
      match ds with
      | [.int k, d'] =>
        show (if d'.free = true then _ else _ : M Fl) p' = if d'.free = true then _ else _
        split <;> rfl
      | [] => rfl
      | [.non, _] => rfl
      | [.bl _, _] => rfl
      | [.str _, _] => rfl
      | [.tup _, _] => rfl
      | [.lst _, _] => rfl
      | [.dct _ _, _] => rfl
      | [.rol _, _] => rfl
      | [.pool, _] => rfl
      | [.fn _, _] => rfl
      | [x] => cases x <;> rfl
      | x :: _ :: _ :: _ => cases x <;> rfl
    | _ => rfl
  · rfl
@[simp] theorem pp2_ap (i j : Nat) (k : Int) (d' : D) : pp2 i j g ε (.tup [.int k, d']) p = if d'.free = true then (g ε p).sx ε fun y p => (Out.ofO (asI y) p).thn fun n p => wrP n k (fun p => .ok (.nx (ε.set j (some d'))) p) p else .bad := rfl
@[simp] theorem sFor_ap (it : DEnv → M (List D)) (t : Pat) (ks : List Nat) : sFor it t ks m ε p = (it ε p).sx ε fun ds p => loopF t m ks ds ε p := rfl
@[simp] theorem pN_ap (chk : Bool) (i : Nat) (d : D) : pN chk i d ε = if (!chk || d.free) = true then some (ε.set i (some d)) else none := rfl
@[simp] theorem pT_ap (ts : List Pat) (ds : List D) : pT ts (.tup ds) ε = pAll ts ds ε := rfl
@[simp] theorem pAll_nil : pAll [] [] ε = some ε := rfl
@[simp] theorem pAll_cons (t : Pat) (ts : List Pat) (d : D) (ds : List D) : pAll (t :: ts) (d :: ds) ε = (t d ε).bind fun ε' => pAll ts ds ε' := rfl
/-- a def's end -/
def Out.run (o : Out Fl) : Out D := match o with
  | .ok (.rt d) p' => .ok d p'
  | .ok (.nx _) p' => .ok .non p'
  | .ok (.xc c d _) p' => .ex c d p'
  | _ => .bad
@[simp] theorem run_rt (d : D) : (Out.ok (.rt d) p).run = .ok d p := rfl
@[simp] theorem run_nx : (Out.ok (.nx ε) p).run = .ok .non p := rfl
@[simp] theorem run_xc (c : Str) (d : Option (Str × D)) : (Out.ok (.xc c d ε) p).run = .ex c d p := rfl
@[simp] theorem run_bad : (Out.bad).run = .bad := rfl
theorem run_ite (c : Prop) [Decidable c] (a b : Out Fl) : (if c then a else b).run = if c then a.run else b.run := by split <;> rfl
theorem runB_ap (b : DEnv → M Fl) (n : Nat) (ds : List D) : runB b n ds p = (b (ds.map some ++ List.replicate (n - ds.length) none) p).run := rfl
@[simp] theorem loopF_nil (t : Pat) (ks : List Nat) : loopF t m ks [] ε p = .ok (.nx ε) p := rfl
/-- behind a turn -/
def Out.turn (o : Out Fl) (ks : List Nat) (f : DEnv → Pool → Out Fl) : Out Fl := match o with
  | .ok (.nx ε) p => f (fg ks ε) p
  | .ok (.ct ε) p => f (fg ks ε) p
  | .ok (.bk ε) p => .ok (.nx (fg ks ε)) p
  | o => o
@[simp] theorem turn_nx (ks : List Nat) (f : DEnv → Pool → Out Fl) : (Out.ok (.nx ε) p).turn ks f = f (fg ks ε) p := rfl
@[simp] theorem turn_ct (ks : List Nat) (f : DEnv → Pool → Out Fl) : (Out.ok (.ct ε) p).turn ks f = f (fg ks ε) p := rfl
@[simp] theorem turn_bk (ks : List Nat) (f : DEnv → Pool → Out Fl) : (Out.ok (.bk ε) p).turn ks f = .ok (.nx (fg ks ε)) p := rfl
@[simp] theorem turn_rt (d : D) (ks : List Nat) (f : DEnv → Pool → Out Fl) : (Out.ok (.rt d) p).turn ks f = .ok (.rt d) p := rfl
@[simp] theorem turn_xc (c : Str) (d : Option (Str × D)) (ks : List Nat) (f : DEnv → Pool → Out Fl) : (Out.ok (.xc c d ε) p).turn ks f = .ok (.xc c d ε) p := rfl
@[simp] theorem turn_bad (ks : List Nat) (f : DEnv → Pool → Out Fl) : (Out.bad).turn ks f = .bad := rfl
theorem loopF_cons (t : Pat) (ks : List Nat) (d : D) (ds : List D) : loopF t m ks (d :: ds) ε p = (Out.ofO (t d ε) p).thn fun ε1 p => (m ε1 p).turn ks fun ε2 p => loopF t m ks ds ε2 p := by
  show ((liftO (t d ε) >>= _) : M Fl) p = _
  rw [bind_thn, lift_ap]
  congr; funext ε1 p'
  rw [bind_thn]
  cases m ε1 p' with
  | ok a p'' => cases a <;> rfl
  | ex c d p'' => rfl
  | bad => rfl
theorem loopW_succ (k : Nat) (ks : List Nat) : loopW (k + 1) fb m ks ε p = (fb ε p).sx ε fun c p => if c then (m ε p).turn ks fun ε2 p => loopW k fb m ks ε2 p else .ok (.nx ε) p := by
  show DL.sx ε (fb ε) (fun g => if g then m ε >>= _ else pure (.nx ε)) p = _
  rw [sx_ap']
  congr; funext c p'
  cases c with
  | false => rfl
  | true =>
    rw [if_pos rfl, if_pos rfl, bind_thn]
    cases m ε p' with
    | ok a p'' => cases a <;> rfl
    | ex c d p'' => rfl
    | bad => rfl
@[simp] theorem lcM_nil (t : Pat) : lcM t fb f [] ε p = .ok [] p := rfl
theorem lcM_cons (t : Pat) (d : D) (ds : List D) : lcM t fb f (d :: ds) ε p = (Out.ofO (t d ε) p).thn fun ε1 p => (fb ε1 p).thn fun b p => if b then (f ε1 p).thn fun y p => (lcM t fb f ds ε p).thn fun ys p => .ok (y :: ys) p else lcM t fb f ds ε p := by
  show ((liftO (t d ε) >>= _) : M (List D)) p = _
  rw [bind_thn, lift_ap]
  congr; funext ε1 p'
  rw [bind_thn]
  congr; funext b p''
  cases b <;> rfl
@[simp] theorem dYes_ap : dYes ε p = .ok true p := rfl
@[simp] theorem wipeE_nil : wipeE ε [] = ε := rfl
@[simp] theorem wipeE_cons (v : Nat) (vs : List Nat) : wipeE ε (v :: vs) = (wipeE ε vs).set v none := rfl
@[simp] theorem fg_nil : fg [] ε = ε := rfl
@[simp] theorem fg_cons (v : Nat) (vs : List Nat) : fg (v :: vs) ε = (fg vs ε).set v none := rfl
theorem noEx_ok {α : Type} {x : M α} {a : α} {p p' : Pool} (h : x p = .ok a p') : noEx x p = .ok a p' := by
  unfold noEx
  rw [h]
end
/-! ### loops -/
theorem loopF_true {t : Pat} {b : DEnv → M Fl} {ks : List Nat} (I : Pool → Prop) (ε : DEnv) : ∀ (ds : List D), (∀ d ∈ ds, ∀ p, I p → ∃ ε1 ε2 p', t d ε = some ε1 ∧ b ε1 p = .ok (.nx ε2) p' ∧ fg ks ε2 = ε ∧ I p') → ∀ p, I p → ∃ p', loopF t b ks ds ε p = .ok (.nx ε) p' ∧ I p'
  | [], _, p, hp => ⟨p, rfl, hp⟩
  | d :: ds, h, p, hp => by
    obtain ⟨ε1, ε2, p', h1, h2, h3, h4⟩ := h d List.mem_cons_self p hp
    obtain ⟨p'', h5, h6⟩ := loopF_true I ε ds (fun d hd => h d (List.mem_cons_of_mem _ hd)) p' h4
    refine ⟨p'', ?_, h6⟩
    rw [loopF_cons, h1, ofO_some, ok_thn, h2, turn_nx, h3]
    exact h5
/-- a loop that carries a state, the pool untouched -/
theorem loopF_fold {S : Type} {t : Pat} {b : DEnv → M Fl} {ks : List Nat} (env : S → DEnv) (step : S → D → S) (p : Pool) : ∀ (ds : List D) (s : S), (∀ s, ∀ d ∈ ds, ∃ ε1 ε2, t d (env s) = some ε1 ∧ b ε1 p = .ok (.nx ε2) p ∧ fg ks ε2 = env (step s d)) → loopF t b ks ds (env s) p = .ok (.nx (env (ds.foldl step s))) p
  | [], _, _ => rfl
  | d :: ds, s, h => by
    obtain ⟨ε1, ε2, h1, h2, h3⟩ := h s d List.mem_cons_self
    rw [loopF_cons, h1, ofO_some, ok_thn, h2, turn_nx, h3]
    exact loopF_fold env step p ds _ fun s d hd => h s d (List.mem_cons_of_mem _ hd)
theorem lcM_map {t : Pat} {fb : DEnv → M Bool} {f : DEnv → M D} {ε : DEnv} {p : Pool} (c : D → Bool) (y : D → D) : ∀ (ds : List D), (∀ d ∈ ds, ∃ ε1, t d ε = some ε1 ∧ fb ε1 p = .ok (c d) p ∧ (c d = true → f ε1 p = .ok (y d) p)) → lcM t fb f ds ε p = .ok ((ds.filter c).map y) p
  | [], _ => rfl
  | d :: ds, h => by
    obtain ⟨ε1, h1, h2, h3⟩ := h d List.mem_cons_self
    have ih := lcM_map (p := p) c y ds fun d hd => h d (List.mem_cons_of_mem _ hd)
    rw [lcM_cons, h1, ofO_some, ok_thn, h2, ok_thn]
    cases e : c d with
    | false => rw [if_neg (by decide), ih, List.filter_cons_of_neg (by rw [e]; decide)]
    | true => rw [if_pos rfl, h3 e, ok_thn, ih, ok_thn, List.filter_cons_of_pos e, List.map_cons]
/-- the same where nothing is left out -/
theorem lcM_all {t : Pat} {f : DEnv → M D} {ε : DEnv} {p : Pool} (y : D → D) (ds : List D) (h : ∀ d ∈ ds, ∃ ε1, t d ε = some ε1 ∧ f ε1 p = .ok (y d) p) : lcM t dYes f ds ε p = .ok (ds.map y) p := by
  have := lcM_map (t := t) (fb := dYes) (f := f) (ε := ε) (p := p) (fun _ => true) y ds fun d hd => let ⟨ε1, h1, h2⟩ := h d hd; ⟨ε1, h1, rfl, fun _ => h2⟩
  rw [this, List.filter_eq_self.mpr fun _ _ => rfl]
/-- items drawn out of the pool -/
theorem lcM_draw {t : Pat} {f : DEnv → M D} {ε : DEnv} (I : Pool → Prop) (R : D → D → Prop) : ∀ (ds : List D), (∀ d ∈ ds, ∀ p, I p → ∃ ε1 y p', t d ε = some ε1 ∧ f ε1 p = .ok y p' ∧ R d y ∧ I p') → ∀ p, I p → ∃ ys p', lcM t dYes f ds ε p = .ok ys p' ∧ ys.length = ds.length ∧ (∀ y ∈ ys, ∃ d ∈ ds, R d y) ∧ I p'
  | [], _, p, hp => ⟨[], p, rfl, rfl, (fun y h => by cases h), hp⟩
  | d :: ds, h, p, hp => by
    obtain ⟨ε1, y, p', h1, h2, h3, h4⟩ := h d List.mem_cons_self p hp
    obtain ⟨ys, p'', h5, h6, h7, h8⟩ := lcM_draw I R ds (fun d hd => h d (List.mem_cons_of_mem _ hd)) p' h4
    refine ⟨y :: ys, p'', ?_, by rw [List.length_cons, List.length_cons, h6], fun z hz => ?_, h8⟩
    · rw [lcM_cons, h1, ofO_some, ok_thn, dYes_ap, ok_thn, if_pos rfl, h2, ok_thn, h5, ok_thn]
    · rcases List.mem_cons.mp hz with rfl | hz
      · exact ⟨d, List.mem_cons_self, h3⟩
      · obtain ⟨d', hd', r⟩ := h7 z hz
        exact ⟨d', List.mem_cons_of_mem _ hd', r⟩
/-! ### kinds -/
theorem kit_vals : kitB "int" "int" = some true ∧ kitB "bool" "int" = some true ∧ kitB "str" "int" = some false ∧ kitB "tuple" "int" = some false ∧ kitB "list" "int" = some false ∧ kitB "dict" "int" = some false ∧ kitB "NoneType" "int" = some false ∧
    kitB "int" "bool" = some false ∧ kitB "bool" "bool" = some true ∧ kitB "str" "bool" = some false ∧ kitB "tuple" "bool" = some false ∧ kitB "list" "bool" = some false ∧ kitB "dict" "bool" = some false ∧ kitB "NoneType" "bool" = some false ∧
    kitB "int" "tuple" = some false ∧ kitB "bool" "tuple" = some false ∧ kitB "str" "tuple" = some false ∧ kitB "tuple" "tuple" = some true ∧ kitB "list" "tuple" = some false ∧ kitB "dict" "tuple" = some false ∧ kitB "NoneType" "tuple" = some false ∧
    kitB "int" "list" = some false ∧ kitB "bool" "list" = some false ∧ kitB "str" "list" = some false ∧ kitB "tuple" "list" = some false ∧ kitB "list" "list" = some true ∧ kitB "dict" "list" = some false ∧ kitB "NoneType" "list" = some false ∧
    kitB "int" "str" = some false ∧ kitB "bool" "str" = some false ∧ kitB "str" "str" = some true ∧ kitB "tuple" "str" = some false ∧ kitB "list" "str" = some false ∧ kitB "dict" "str" = some false ∧ kitB "NoneType" "str" = some false := by decide +kernel
/-- a plain value: its kind is known -/
def kn (d : D) : Bool := (tyName d).isSome
def isIntB : D → Bool
  | .int _ => true
  | .bl _ => true
  | _ => false
def isBlB : D → Bool
  | .bl _ => true
  | _ => false
def isTupB : D → Bool
  | .tup _ => true
  | _ => false
def isLstB : D → Bool
  | .lst _ => true
  | _ => false
theorem isD_int {d : D} (h : kn d = true) : isD "int" d = some (.bl (isIntB d)) := by
  have k := kit_vals
  cases d <;> first | (cases h; done) | (unfold isD tyName isIntB; simp [k])
theorem isD_bool {d : D} (h : kn d = true) : isD "bool" d = some (.bl (isBlB d)) := by
  have k := kit_vals
  cases d <;> first | (cases h; done) | (unfold isD tyName isBlB; simp [k])
theorem isD_tuple {d : D} (h : kn d = true) : isD "tuple" d = some (.bl (isTupB d)) := by
  have k := kit_vals
  cases d <;> first | (cases h; done) | (unfold isD tyName isTupB; simp [k])
theorem isD_list {d : D} (h : kn d = true) : isD "list" d = some (.bl (isLstB d)) := by
  have k := kit_vals
  cases d <;> first | (cases h; done) | (unfold isD tyName isLstB; simp [k])
end DL

end
section
namespace DL
open PySem PySem.Spec L2
/-! ### equality of data -/
def eqvs (xs ys : List D) : Bool := PyData.eqvAll (toPys xs) (toPys ys)
@[simp] theorem eqv_int (a b : Int) : eqv (.int a) (.int b) = decide (a = b) := by
  show (a == b) = _
  rw [Bool.eq_iff_iff]; simp
@[simp] theorem eqv_bl (a b : Bool) : eqv (.bl a) (.bl b) = decide (a = b) := by
  show (a == b) = _
  rw [Bool.eq_iff_iff]; simp
@[simp] theorem eqv_str (a b : Str) : eqv (.str a) (.str b) = decide (a = b) := by
  show (a == b) = _
  rw [Bool.eq_iff_iff]; simp
@[simp] theorem eqv_non : eqv .non .non = true := rfl
@[simp] theorem eqv_tup (xs ys : List D) : eqv (.tup xs) (.tup ys) = eqvs xs ys := rfl
@[simp] theorem eqv_lst (xs ys : List D) : eqv (.lst xs) (.lst ys) = eqvs xs ys := rfl
@[simp] theorem eqvs_nil : eqvs [] [] = true := rfl
@[simp] theorem eqvs_cons (x y : D) (xs ys : List D) : eqvs (x :: xs) (y :: ys) = (eqv x y && eqvs xs ys) := rfl
@[simp] theorem eqvs_nc (y : D) (ys : List D) : eqvs [] (y :: ys) = false := rfl
@[simp] theorem eqvs_cn (x : D) (xs : List D) : eqvs (x :: xs) [] = false := rfl
@[simp] theorem eqv_tl (xs ys : List D) : eqv (.tup xs) (.lst ys) = false := rfl
@[simp] theorem eqv_lt (xs ys : List D) : eqv (.lst xs) (.tup ys) = false := rfl
@[simp] theorem eqv_ti (xs : List D) (i : Int) : eqv (.tup xs) (.int i) = false := rfl
@[simp] theorem eqv_it (xs : List D) (i : Int) : eqv (.int i) (.tup xs) = false := rfl
@[simp] theorem eqv_nt (xs : List D) : eqv .non (.tup xs) = false := rfl
@[simp] theorem eqv_tn (xs : List D) : eqv (.tup xs) .non = false := rfl
theorem eqv_self {n : Nat} {d : D} (h : sh n d = true) : eqv d d = true := PySem.SeqAt.eqv_refl_plain _ (toPy_plain n d h).1
@[simp] theorem eqD_eq (neg : Bool) (x y : D) (h : (sh 20 x && sh 20 y) = true) : eqD neg x y = some (.bl (if neg then !eqv x y else eqv x y)) := by
  unfold eqD
  rw [if_pos h]
/-! ### repr -/
mutual
def wt : D → Nat
  | .non => 4
  | .bl _ => 5
  | .int i => if i.natAbs < 10 ^ 500 then 502 else 10000000
  | .str x => if (x.cps.toList.all fun c => decide (c < 16 ^ 8)) = true then 10 * x.length + 2 else 10000000
  | .tup ds => wts ds + 3
  | .lst ds => wts ds + 3
  | .rol ds => wts ds + 3
  | _ => 10000000
def wts : List D → Nat
  | [] => 0
  | d :: ds => wt d + 2 + wts ds
end
theorem log_small {n : Nat} (h : n < 10 ^ 500) : n.log2 < 1920 := by
  by_cases h0 : n = 0
  · subst h0; decide
  · rw [Nat.log2_lt h0]
    exact Nat.lt_trans h (by decide +kernel)
theorem shownAll_sum : ∀ xs : List PyData, (PyData.shownAll xs).length = xs.length
  | [] => rfl
  | x :: xs => by simp [PyData.shownAll, shownAll_sum xs]
mutual
theorem wt_ok : ∀ d : D, wt d ≤ 1000000 → (toPy d).shown.length ≤ wt d ∧ (toPy d).showable = true
  | .non, _ => ⟨Nat.le_refl _, rfl⟩
  | .bl b, _ => ⟨by cases b <;> decide, rfl⟩
  | .int i, h => by
    unfold wt at h ⊢
    split at h
    · rename_i hi
      rw [if_pos hi]
      refine ⟨?_, ?_⟩
      · show (Str.ofString (toString i)).length ≤ _
        rw [ofString_length]
        have := int_text_length_le10 (k := 500) (by decide) hi
        omega
      · show decide (i.natAbs.log2 < 1920) = true
        exact decide_eq_true (log_small hi)
    · omega
  | .str x, h => by
    unfold wt at h ⊢
    split at h
    · rename_i hx
      rw [if_pos hx]
      refine ⟨?_, rfl⟩
      show (reprText x).length ≤ _
      exact StrLaws.reprText_len x (fun c hc => of_decide_eq_true (List.all_eq_true.mp hx c hc))
    · omega
  | .tup ds, h => by
    unfold wt at h ⊢
    obtain ⟨h1, h2⟩ := wts_ok ds (by omega)
    refine ⟨?_, h2⟩
    have := tupleText_len_le (PyData.shownAll (toPys ds))
    show (tupleText (PyData.shownAll (toPys ds))).length ≤ _
    omega
  | .lst ds, h => by
    unfold wt at h ⊢
    obtain ⟨h1, h2⟩ := wts_ok ds (by omega)
    refine ⟨?_, h2⟩
    have := listText_len_le (PyData.shownAll (toPys ds))
    show (listText (PyData.shownAll (toPys ds))).length ≤ _
    omega
  | .rol ds, h => by
    unfold wt at h ⊢
    obtain ⟨h1, h2⟩ := wts_ok ds (by omega)
    refine ⟨?_, h2⟩
    have := listText_len_le (PyData.shownAll (toPys ds))
    show (listText (PyData.shownAll (toPys ds))).length ≤ _
    omega
  | .dct _ _, h => by unfold wt at h; omega
  | .pool, h => by unfold wt at h; omega
  | .fn _, h => by unfold wt at h; omega
theorem wts_ok : ∀ ds : List D, wts ds ≤ 1000000 → ((PyData.shownAll (toPys ds)).map (·.length)).sum + 2 * (PyData.shownAll (toPys ds)).length ≤ wts ds ∧ PyData.showableAll (toPys ds) = true
  | [], _ => ⟨Nat.le_refl _, rfl⟩
  | d :: ds, h => by
    unfold wts at h ⊢
    obtain ⟨h1, h2⟩ := wt_ok d (by omega)
    obtain ⟨h3, h4⟩ := wts_ok ds (by omega)
    refine ⟨?_, ?_⟩
    · show (((toPy d).shown :: PyData.shownAll (toPys ds)).map (·.length)).sum + 2 * ((toPy d).shown :: PyData.shownAll (toPys ds)).length ≤ _
      rw [List.map_cons, List.sum_cons, List.length_cons]
      omega
    · show ((toPy d).showable && PyData.showableAll (toPys ds)) = true
      rw [h2, h4]; rfl
end
theorem okR_of {d : D} (h : sh 20 d = true) (hw : wt d ≤ 1000000) : okR d = true := by
  obtain ⟨h1, h2⟩ := wt_ok d hw
  unfold okR
  rw [h, h2]
  simp
  omega
theorem repr_of {d : D} (h : sh 20 d = true) (hw : wt d ≤ 1000000) : reprD [d] = some (.str (toPy d).shown) := by
  show (if _ then _ else _) = _
  rw [if_pos (okR_of h hw)]
/-! ### sizes -/
theorem cmul_l {i j : Int} (h : i.natAbs < 2 ^ 64) : CMulD i j := .inl (.inl h)
theorem cmul_r {i j : Int} (h : j.natAbs < 2 ^ 64) : CMulD i j := .inl (.inr h)
theorem log2_lt_of {n k : Nat} (h : n < 2 ^ k) (hk : 0 < k) : n.log2 < k := by
  by_cases h0 : n = 0
  · subst h0; simpa using hk
  · exact (Nat.log2_lt h0).mpr h
theorem cmul_b {i j : Int} (h : i.natAbs < 2 ^ 400000) (h' : j.natAbs < 2 ^ 400000) : CMulD i j := by
  refine .inr ?_
  have a := log2_lt_of h (by omega)
  have b := log2_lt_of h' (by omega)
  omega
theorem mulD_of {i j : Int} (h : CMulD i j) : mulD (.int i) (.int j) = some (.int (i * j)) := by
  show (if _ then _ else _) = _
  rw [if_pos h]
theorem fdivD_of {i j : Int} (h : j ≠ 0) (h' : j.natAbs < 2 ^ 9000) : fdivD (.int i) (.int j) = some (.int (i.fdiv j)) := by
  show (if _ then _ else _) = _
  rw [if_pos ⟨h, log2_lt_of h' (by omega)⟩]
theorem modD_of {i j : Int} (h : j ≠ 0) : modD (.int i) (.int j) = some (.int (i.fmod j)) := by
  show (if _ then _ else _) = _
  rw [if_pos h]
/-- the pool: three numbers -/
def PI (p : Pool) : Prop := ∃ a b c : Int, p = some [.int a, .int b, .int c]
@[simp] theorem rdPool_0 (a b c : D) : rdPool 0 (some [a, b, c]) = .ok a (some [a, b, c]) := rfl
@[simp] theorem rdPool_1 (a b c : D) : rdPool 1 (some [a, b, c]) = .ok b (some [a, b, c]) := rfl
@[simp] theorem rdPool_2 (a b c : D) : rdPool 2 (some [a, b, c]) = .ok c (some [a, b, c]) := rfl
@[simp] theorem wrPool_0 (a b c : D) (m : Int) (k : Pool → Out Fl) : wrP 0 m k (some [a, b, c]) = k (some [.int m, b, c]) := rfl
@[simp] theorem wrPool_1 (a b c : D) (m : Int) (k : Pool → Out Fl) : wrP 1 m k (some [a, b, c]) = k (some [a, .int m, c]) := rfl
@[simp] theorem wrPool_2 (a b c : D) (m : Int) (k : Pool → Out Fl) : wrP 2 m k (some [a, b, c]) = k (some [a, b, .int m]) := rfl
@[simp] theorem isPool_0 (ε : DEnv) : isPool 0 (some .pool :: ε) = true := rfl
@[simp] theorem isPool_s (i : Nat) (x : Option D) (ε : DEnv) : isPool (i + 1) (x :: ε) = isPool i ε := rfl
@[simp] theorem free_int (i : Int) : D.free (.int i) = true := rfl
@[simp] theorem free_bl (i : Bool) : D.free (.bl i) = true := rfl
@[simp] theorem free_str (i : Str) : D.free (.str i) = true := rfl
@[simp] theorem free_non : D.free .non = true := rfl
@[simp] theorem free_tup (ds : List D) : D.free (.tup ds) = D.frees ds := by simp only [D.free]
@[simp] theorem frees_nil : D.frees [] = true := by simp only [D.frees]
@[simp] theorem frees_cons (d : D) (ds : List D) : D.frees (d :: ds) = (d.free && D.frees ds) := by simp only [D.frees]
/-! ### the operators at work -/
@[simp] theorem addD_i (a b : Int) : addD (.int a) (.int b) = some (.int (a + b)) := rfl
@[simp] theorem addD_t (a b : List D) : addD (.tup a) (.tup b) = if a.length + b.length ≤ 10000 then some (.tup (a ++ b)) else none := rfl
@[simp] theorem addD_l (a b : List D) : addD (.lst a) (.lst b) = if a.length + b.length ≤ 10000 then some (.lst (a ++ b)) else none := rfl
@[simp] theorem subD_i (a b : Int) : subD (.int a) (.int b) = some (.int (a - b)) := rfl
@[simp] theorem negD_i (a : Int) : negD (.int a) = some (.int (-a)) := rfl
@[simp] theorem cmpD_i (c : Int → Int → Bool) (a b : Int) : cmpD c (.int a) (.int b) = some (.bl (c a b)) := rfl
@[simp] theorem asB_bl (b : Bool) : asB (.bl b) = some b := rfl
@[simp] theorem asI_int (b : Int) : asI (.int b) = some b := rfl
@[simp] theorem intD_i (b : Int) : intD [.int b] = some (.int b) := rfl
@[simp] theorem intD_b (b : Bool) : intD [.bl b] = some (.int (if b then 1 else 0)) := rfl
@[simp] theorem absD_i (i : Int) : absD [.int i] = some (.int (if i < 0 then -i else i)) := rfl
@[simp] theorem gcdD_i (i j : Int) : gcdD [.int i, .int j] = some (.int ((Nat.gcd i.natAbs j.natAbs : Nat) : Int)) := rfl
@[simp] theorem lenD_t (ds : List D) : lenD [.tup ds] = some (.int ds.length) := rfl
@[simp] theorem lenD_l (ds : List D) : lenD [.lst ds] = some (.int ds.length) := rfl
@[simp] theorem lenD_r (ds : List D) : lenD [.rol ds] = some (.int ds.length) := rfl
@[simp] theorem tupleD_t (ds : List D) : tupleD [.tup ds] = some (.tup ds) := rfl
@[simp] theorem tupleD_l (ds : List D) : tupleD [.lst ds] = some (.tup ds) := rfl
@[simp] theorem listD_t (ds : List D) : listD [.tup ds] = some (.lst ds) := rfl
@[simp] theorem listD_l (ds : List D) : listD [.lst ds] = some (.lst ds) := rfl
@[simp] theorem maxD_i (i j : Int) : maxD [.int i, .int j] = some (.int (if j > i then j else i)) := rfl
@[simp] theorem minD_i (i j : Int) : minD [.int i, .int j] = some (.int (if j < i then j else i)) := rfl
@[simp] theorem isB2_b (neg a b : Bool) : isB2 neg (.bl a) (.bl b) = some (.bl (if neg then !decide (a = b) else decide (a = b))) := rfl
@[simp] theorem seqO_t (ds : List D) : seqO (.tup ds) = some ds := rfl
@[simp] theorem seqO_l (ds : List D) : seqO (.lst ds) = some ds := rfl
@[simp] theorem seqO_r (ds : List D) : seqO (.rol ds) = some ds := rfl
@[simp] theorem strD_s (x : Str) : strD [.str x] = some (.str x) := rfl
@[simp] theorem sh_i (n : Nat) (i : Int) : sh n (.int i) = true := by cases n <;> rfl
@[simp] theorem sh_b (n : Nat) (i : Bool) : sh n (.bl i) = true := by cases n <;> rfl
@[simp] theorem sh_s (n : Nat) (i : Str) : sh n (.str i) = true := by cases n <;> rfl
@[simp] theorem sh_n (n : Nat) : sh n .non = true := by cases n <;> rfl
@[simp] theorem sh_t (n : Nat) (ds : List D) : sh (n + 1) (.tup ds) = ds.all (sh n) := rfl
@[simp] theorem sh_l (n : Nat) (ds : List D) : sh (n + 1) (.lst ds) = ds.all (sh n) := rfl
@[simp] theorem mul_l (i j : Int) (h : i.natAbs < 2 ^ 64) : mulD (.int i) (.int j) = some (.int (i * j)) := mulD_of (cmul_l h)
@[simp] theorem mul_r (i j : Int) (h : j.natAbs < 2 ^ 64) : mulD (.int i) (.int j) = some (.int (i * j)) := mulD_of (cmul_r h)
theorem mul_fm (x y k m : Int) (hk : 0 < k) (hk2 : k < 2 ^ 40) (hm : 0 ≤ m) (hm2 : m < 2 ^ 40) : mulD (.int x) (.int (y.fmod k + m)) = some (.int (x * (y.fmod k + m))) := mulD_of (cmul_r (by
  have h1 := Int.fmod_nonneg_of_pos y hk
  have h2 := Int.fmod_lt_of_pos y hk
  have e1 : (2 : Int) ^ 40 = 1099511627776 := by decide
  have e2 : (2 : Nat) ^ 64 = 18446744073709551616 := by decide
  omega))
theorem fdiv_lit (i j : Int) (h : j ≠ 0) (h' : j.natAbs < 2 ^ 64) : fdivD (.int i) (.int j) = some (.int (i.fdiv j)) := fdivD_of h (Nat.lt_of_lt_of_le h' (Nat.pow_le_pow_right (by decide) (by decide)))
@[simp] theorem mod_lit (i j : Int) (h : j ≠ 0) : modD (.int i) (.int j) = some (.int (i.fmod j)) := modD_of h
@[simp] theorem pow_lit (i j : Int) (h : 0 ≤ j) (h2 : j ≤ 1000000) (h3 : i.natAbs < 2 ^ 64) : powD (.int i) (.int j) = some (.int (i ^ j.toNat)) := by
  show (if _ then _ else _) = _
  rw [if_pos ⟨h, h2, h3⟩]
theorem tupO_of {ds : List D} (h : ds.length ≤ 10000) : tupO ds = some (.tup ds) := if_pos h
theorem lstO_of {ds : List D} (h : ds.length ≤ 10000) : lstO ds = some (.lst ds) := if_pos h
/-- an item, of what is told item by item -/
theorem ixD_t (ds : List D) (i : Int) : ixD (.tup ds) (.int i) = atI ds i := rfl
theorem ixD_l (ds : List D) (i : Int) : ixD (.lst ds) (.int i) = atI ds i := rfl
theorem ixD_r (ds : List D) (i : Int) : ixD (.rol ds) (.int i) = atI ds i := rfl
@[simp] theorem ixT0 (a : D) (l : List D) : ixD (.tup (a :: l)) (.int 0) = some a := by
  rw [ixD_t]; unfold atI ixN; simp
@[simp] theorem ixL0 (a : D) (l : List D) : ixD (.lst (a :: l)) (.int 0) = some a := ixT0 a l
@[simp] theorem ixT1 (a b : D) (l : List D) : ixD (.tup (a :: b :: l)) (.int 1) = some b := by
  rw [ixD_t]; unfold atI ixN; simp; rw [if_pos (by omega)]; rfl
@[simp] theorem ixL1 (a b : D) (l : List D) : ixD (.lst (a :: b :: l)) (.int 1) = some b := ixT1 a b l
@[simp] theorem ixT2 (a b c : D) (l : List D) : ixD (.tup (a :: b :: c :: l)) (.int 2) = some c := by
  rw [ixD_t]; unfold atI ixN; simp; rw [if_pos (by omega)]; rfl
@[simp] theorem ixL2 (a b c : D) (l : List D) : ixD (.lst (a :: b :: c :: l)) (.int 2) = some c := ixT2 a b c l
theorem atI_nat {α : Type} {l : List α} {i : Int} (h0 : 0 ≤ i) (h1 : i < l.length) : ∃ x, atI l i = some x ∧ l[i.toNat]? = some x := by
  unfold atI ixN
  rw [if_pos h0, if_pos h1, Option.bind_some]
  have : i.toNat < l.length := by omega
  exact ⟨l[i.toNat], by rw [List.getElem?_eq_getElem this], by rw [List.getElem?_eq_getElem this]⟩
end DL

end
section
namespace DL
open PySem PySem.Spec L2
def Out.nox {α : Type} (o : Out α) : Out α := match o with
  | .ok a p => .ok a p
  | _ => .bad
@[simp] theorem nox_ok {α : Type} (a : α) (p : Pool) : (Out.ok a p).nox = .ok a p := rfl
@[simp] theorem nox_bad {α : Type} : (Out.bad : Out α).nox = .bad := rfl
@[simp] theorem noEx_ap {α : Type} (m : M α) (p : Pool) : noEx m p = (m p).nox := by
  unfold noEx Out.nox
  cases m p <;> rfl
def Out.nxn (o : Out Fl) (f : DEnv → Pool → Out (List D)) : Out (List D) := match o with
  | .ok (.nx ε) p => f ε p
  | .ex c d p => .ex c d p
  | _ => .bad
@[simp] theorem nxn_nx (ε : DEnv) (p : Pool) (f : DEnv → Pool → Out (List D)) : (Out.ok (.nx ε) p).nxn f = f ε p := rfl
@[simp] theorem seqN_nil (fs : DEnv → M (List D)) (ε : DEnv) : seqN fs [] ε = fs ε := rfl
@[simp] theorem seqN_cons (fs : DEnv → M (List D)) (m : DEnv → M Fl) (ms : List (DEnv → M Fl)) (ε : DEnv) (p : Pool) : seqN fs (m :: ms) ε p = (m ε p).nxn fun ε p => seqN fs ms ε p := by
  show ((m ε >>= _) : M (List D)) p = _
  rw [bind_thn]
  cases m ε p with
  | ok a p' => cases a <;> rfl
  | ex c d p' => rfl
  | bad => rfl
theorem runNew_ap (ms : List (DEnv → M Fl)) (fs : DEnv → M (List D)) (n : Nat) (ds : List D) (p : Pool) : runNew ms fs n ds p = (((seqN fs ms (ds.map some ++ List.replicate (n - ds.length) none) p).thn fun xs p => Out.ofO (lstO xs) p)).nox := by
  unfold runNew
  rw [noEx_ap]
  rfl
theorem loopF_inv {t : Pat} {b : DEnv → M Fl} {ks : List Nat} (J : DEnv → Pool → Prop) : ∀ (ds : List D), (∀ d ∈ ds, ∀ ε p, J ε p → ∃ ε1 ε2 p', t d ε = some ε1 ∧ b ε1 p = .ok (.nx ε2) p' ∧ J (fg ks ε2) p') → ∀ ε p, J ε p → ∃ ε' p', loopF t b ks ds ε p = .ok (.nx ε') p' ∧ J ε' p'
  | [], _, ε, p, hp => ⟨ε, p, rfl, hp⟩
  | d :: ds, h, ε, p, hp => by
    obtain ⟨ε1, ε2, p', h1, h2, h3⟩ := h d List.mem_cons_self ε p hp
    obtain ⟨ε', p'', h5, h6⟩ := loopF_inv J ds (fun d hd => h d (List.mem_cons_of_mem _ hd)) _ p' h3
    refine ⟨ε', p'', ?_, h6⟩
    rw [loopF_cons, h1, ofO_some, ok_thn, h2, turn_nx]
    exact h5
theorem cut_mem {α : Type} {xs : List α} {lo hi : Option Int} {x : α} (h : x ∈ cut xs lo hi) : x ∈ xs := List.mem_of_mem_drop (List.mem_of_mem_take h)
@[simp] theorem slD_t (lo hi : Option Int) (ds : List D) : slD lo hi (.tup ds) = some (.tup (cut ds lo hi)) := rfl
@[simp] theorem slD_l (lo hi : Option Int) (ds : List D) : slD lo hi (.lst ds) = some (.lst (cut ds lo hi)) := rfl
@[simp] theorem slD_r (lo hi : Option Int) (ds : List D) : slD lo hi (.rol ds) = some (.lst (cut ds lo hi)) := rfl
theorem cut_up {α : Type} (xs : List α) (n : Nat) : cut xs none (some (n : Int)) = xs.take n := by
  unfold cut
  have h0 : HT.sIx xs.length 0 none = 0 := rfl
  have h1 : HT.sIx xs.length xs.length (some (n : Int)) = min n xs.length := by
    unfold HT.sIx
    simp
    try omega
  rw [h0, h1, List.drop_zero, Nat.sub_zero]
  by_cases h : n ≤ xs.length
  · rw [Nat.min_eq_left h]
  · rw [Nat.min_eq_right (by omega), List.take_of_length_le (Nat.le_refl _), List.take_of_length_le (by omega)]
@[simp] theorem rng1_i (n : Int) (h : -(2 ^ 62) ≤ n ∧ n < 2 ^ 62) : rng1 [.int n] = some (rngL 0 n.toNat) := by
  show (if _ then _ else _) = _
  rw [if_pos h]
@[simp] theorem rng2_i (m n : Int) (h : -(2 ^ 62) ≤ m ∧ m < 2 ^ 62 ∧ -(2 ^ 62) ≤ n ∧ n < 2 ^ 62) : rng2 [.int m, .int n] = some (rngL m (n - m).toNat) := by
  show (if _ then _ else _) = _
  rw [if_pos h]
theorem rngL_mem {lo : Int} {n : Nat} {d : D} (h : d ∈ rngL lo n) : ∃ i : Int, d = .int i ∧ lo ≤ i ∧ i < lo + n := by
  unfold rngL at h
  obtain ⟨k, hk, rfl⟩ := List.mem_map.mp h
  have := List.mem_range.mp hk
  exact ⟨_, rfl, by omega, by omega⟩
theorem rngL_len {lo : Int} {n : Nat} : (rngL lo n).length = n := by simp [rngL]
theorem withPool_ok {is : List D} {m : M D} {p : Pool} {d : D} {p' : Pool} (h : m (some is) = .ok d p') (hf : d.free = true) : withPool is m p = .ok d p := by
  unfold withPool
  rw [h]
  exact if_pos hf
theorem asIs_ints : ∀ ns : List Int, asIs (ns.map D.int) = some ns
  | [] => rfl
  | n :: ns => by
    show (match asI (.int n), asIs (ns.map D.int) with | some b, some bs => some (b :: bs) | _, _ => none) = _
    rw [asIs_ints ns]; rfl
theorem dCallPool_ap (n n' : Nat) (m m' : List D → M D) (fs : DEnv → M (List D)) (ε : DEnv) (p p1 p2 p' : Pool) (ds : List D) (ns : List Int) (d : D) (h1 : fs ε p = .ok ds p1) (hl : ds.length = n') (hn : n = 1) (h2 : m' ds p1 = .ok (.lst (ns.map D.int)) p2) (h3 : m [.pool] (some (ns.map D.int)) = .ok d p') (hf : d.free = true) : dCallPool n n' m m' fs ε p = .ok d p2 := by
  unfold dCallPool
  rw [bind_thn, h1, ok_thn, if_pos ⟨hl, hn⟩, bind_thn, h2, ok_thn]
  dsimp only
  rw [asIs_ints]
  exact withPool_ok h3 hf
end DL

end
section
namespace DL
open PySem PySem.Spec L2
/-! ### the pools of k00 to k19 -/
def bDraw (c1 c2 c3 c4 c5 c6 : Int) : DEnv → M Fl :=
  (sSeq (sIf (dB (d2 gtD (dPool 0 (dC (.int 1))) (dC (.int 0)))) (sSeq (sPoolPair 0 2 (dC (.int 1)) (dA divmodD (dCons (dPool 0 (dC (.int 1))) (dCons (dVar 1) dNil)))) (sRet (dVar 2))) sNil) (sSeq (sPool 0 (dC (.int 2)) (d2 addD (dPool 0 (dC (.int 2))) (dC (.int 1)))) (sSeq (sSet false 3 (dA intD (dCons (dPool 0 (dC (.int 0))) dNil))) (sSeq (sPool 0 (dC (.int 0)) (d2 modD (dA intD (dCons (d2 addD (d2 addD (d2 mulD (dVar 3) (d2 addD (d2 modD (dVar 3) (dC (.int c1))) (dC (.int c2)))) (d2 mulD (dC (.int c3)) (dPool 0 (dC (.int 2))))) (dC (.int c4))) dNil)) (dC (.int c5)))) (sRet (d2 modD (dA intD (dCons (d2 fdivD (dPool 0 (dC (.int 0))) (dC (.int c6))) dNil)) (dVar 1)))))))
theorem draw0 {c1 c2 c3 c4 c5 c6 : Int} (h1 : 0 < c1 ∧ c1 < 2 ^ 40 ∧ 0 ≤ c2 ∧ c2 < 2 ^ 40 ∧ c3.natAbs < 2 ^ 64 ∧ c5 ≠ 0 ∧ c6 ≠ 0 ∧ c6.natAbs < 2 ^ 64) {p : Pool} (h : PI p) (n : Int) (hn : 0 < n) (hn2 : n < 1000000000) : ∃ k p', runB (bDraw c1 c2 c3 c4 c5 c6) 4 [.pool, .int n] p = .ok (.int k) p' ∧ 0 ≤ k ∧ k < n ∧ PI p' := by
  obtain ⟨a, b, c, rfl⟩ := h
  obtain ⟨x1, x2, x3, x4, x5, x6, x7, x8⟩ := h1
  by_cases hb : 0 < b
  · refine ⟨b % n, some [.int a, .int (b / n), .int c], ?_, Int.emod_nonneg _ (by omega), Int.emod_lt_of_pos _ hn, ⟨_, _, _, rfl⟩⟩
    simp [bDraw, runB_ap, divmodD, show CDiv b n from ⟨hn, by omega⟩, hb]
  · have hn0 : n ≠ 0 := by omega
    have x2' : c1 < 1099511627776 := by simpa using x2
    have x4' : c2 < 1099511627776 := by simpa using x4
    have x5' : c3.natAbs < 18446744073709551616 := by simpa using x5
    have x8' : c6.natAbs < 18446744073709551616 := by simpa using x8
    have x0 : c1 ≠ 0 := by omega
    simp [bDraw, runB_ap, hb, mul_fm, fdiv_lit, hn0, x1, x2', x3, x4', x5', x6, x7, x8', x0]
    exact ⟨_, _, ⟨rfl, rfl⟩, Int.fmod_nonneg_of_pos _ hn, Int.fmod_lt_of_pos _ hn, ⟨_, _, _, rfl⟩⟩
def pPool (c1 c2 c3 c4 c5 c6 c7 c8 : Int) : List (DEnv → M Fl) := [(sPar false 2 3 (dCons (dIte (dB (d2 ltD (dVar 1) (dA lenD (dCons (dVar 0) dNil)))) (dA intD (dCons (d2 ixD (dVar 0) (dVar 1)) dNil)) (d2 addD (d2 mulD (dC (.int c1)) (dVar 1)) (dC (.int c2)))) (dCons (d2 addD (dC (.int c3)) (d2 mulD (dC (.int c4)) (dVar 1))) dNil))),
  (sFor (iSeq (dSl (dVar 0) oNone (oSome (dC (.int 63))))) (pN false 4) [4] (sSet false 3 (d2 modD (dA intD (dCons (d2 addD (d2 addD (d2 mulD (dVar 3) (dC (.int c5))) (d2 modD (dA intD (dCons (dVar 4) dNil)) (dC (.int c6)))) (dC (.int c7))) dNil)) (dC (.int c8)))))]
def ePool (c1 c2 : Int) : DEnv → M (List D) := (dCons (d2 modD (dA intD (dCons (d2 addD (dVar 3) (d2 mulD (dVar 2) (dC (.int c1)))) dNil)) (dC (.int c2))) (dCons (dIte (dOr (dB (d2 ltD (dVar 2) (dC (.int 0)))) (dB (d2 geD (dVar 2) (d2 powD (dC (.int 10)) (dC (.int 18)))))) (dA absD (dCons (dVar 2) dNil)) (dC (.int 0))) (dCons (dC (.int 0)) dNil)))
theorem pool0 {c1 c2 c3 c4 c5 c6 c7 c8 e1 e2 : Int} (h1 : c1.natAbs < 2 ^ 64 ∧ c4.natAbs < 2 ^ 64 ∧ c5.natAbs < 2 ^ 64 ∧ c6 ≠ 0 ∧ c8 ≠ 0 ∧ e1.natAbs < 2 ^ 64 ∧ e2 ≠ 0) (ns : List Int) (turn : Int) (h0 : 0 ≤ turn) (p : Pool) :
    ∃ a b c : Int, runNew (pPool c1 c2 c3 c4 c5 c6 c7 c8) (ePool e1 e2) 5 [.rol (ns.map D.int), .int turn] p = .ok (.lst [.int a, .int b, .int c]) p := by
  obtain ⟨x1, x2, x3, x4, x5, x6, x7⟩ := h1
  have x1' : c1.natAbs < 18446744073709551616 := by simpa using x1
  have x2' : c4.natAbs < 18446744073709551616 := by simpa using x2
  have x3' : c5.natAbs < 18446744073709551616 := by simpa using x3
  have x6' : e1.natAbs < 18446744073709551616 := by simpa using x6
  have loop : ∀ (own st : Int), ∃ st' : Int, loopF (pN false 4) (sSet false 3 (d2 modD (dA intD (dCons (d2 addD (d2 addD (d2 mulD (dVar 3) (dC (.int c5))) (d2 modD (dA intD (dCons (dVar 4) dNil)) (dC (.int c6)))) (dC (.int c7))) dNil)) (dC (.int c8)))) [4] (cut (ns.map D.int) none (some 63)) [some (.rol (ns.map D.int)), some (.int turn), some (.int own), some (.int st), none] p = .ok (.nx [some (.rol (ns.map D.int)), some (.int turn), some (.int own), some (.int st'), none]) p := by
    intro own st
    obtain ⟨ε', p', h1, st', rfl, rfl⟩ := loopF_inv (t := pN false 4) (b := sSet false 3 (d2 modD (dA intD (dCons (d2 addD (d2 addD (d2 mulD (dVar 3) (dC (.int c5))) (d2 modD (dA intD (dCons (dVar 4) dNil)) (dC (.int c6)))) (dC (.int c7))) dNil)) (dC (.int c8)))) (ks := [4])
      (fun ε q => ∃ st' : Int, ε = [some (.rol (ns.map D.int)), some (.int turn), some (.int own), some (.int st'), none] ∧ q = p) (cut (ns.map D.int) none (some 63)) (fun d hd ε q ⟨st', e, eq⟩ => by
        subst e eq
        obtain ⟨i, _, rfl⟩ := List.mem_map.mp (cut_mem hd)
        simp [x3', x4, x5]) [some (.rol (ns.map D.int)), some (.int turn), some (.int own), some (.int st), none] p ⟨st, rfl, rfl⟩
    exact ⟨st', h1⟩
  have own : ∃ own : Int, (dIte (dB (d2 ltD (dVar 1) (dA lenD (dCons (dVar 0) dNil)))) (dA intD (dCons (d2 ixD (dVar 0) (dVar 1)) dNil)) (d2 addD (d2 mulD (dC (.int c1)) (dVar 1)) (dC (.int c2)))) [some (.rol (ns.map D.int)), some (.int turn), none, none, none] p = .ok (.int own) p := by
    by_cases c : turn < ns.length
    · obtain ⟨x, e1, e2⟩ := atI_nat (l := ns.map D.int) h0 (by simpa using c)
      obtain ⟨i, _, rfl⟩ := List.mem_map.mp (List.mem_of_getElem? e2)
      exact ⟨i, by simp [c, ixD_r, e1]⟩
    · exact ⟨_, by simp [c, x1']; rfl⟩
  obtain ⟨own, eo⟩ := own
  obtain ⟨st, es⟩ := loop own (c3 + c4 * turn)
  have first : sPar false 2 3 (dCons (dIte (dB (d2 ltD (dVar 1) (dA lenD (dCons (dVar 0) dNil)))) (dA intD (dCons (d2 ixD (dVar 0) (dVar 1)) dNil)) (d2 addD (d2 mulD (dC (.int c1)) (dVar 1)) (dC (.int c2)))) (dCons (d2 addD (dC (.int c3)) (d2 mulD (dC (.int c4)) (dVar 1))) dNil)) [some (.rol (ns.map D.int)), some (.int turn), none, none, none] p = .ok (.nx [some (.rol (ns.map D.int)), some (.int turn), some (.int own), some (.int (c3 + c4 * turn)), none]) p := by
    rw [sPar_ap, dCons_ap, eo]
    simp [x2']
  have last : ∃ a b c : Int, ePool e1 e2 [some (.rol (ns.map D.int)), some (.int turn), some (.int own), some (.int st), none] p = .ok [.int a, .int b, .int c] p := by
    by_cases h' : own < 0
    · simp [ePool, x6', x7, h']
    · by_cases h2 : 1000000000000000000 ≤ own
      · simp [ePool, x6', x7, h', h2]
      · simp [ePool, x6', x7, h', h2]
  obtain ⟨a, b, c, el⟩ := last
  refine ⟨a, b, c, ?_⟩
  rw [runNew_ap]
  unfold pPool
  rw [seqN_cons]
  show ((((sPar false 2 3 _ [some (.rol (ns.map D.int)), some (.int turn), none, none, none] p).nxn _).thn _).nox = _)
  rw [first, nxn_nx, seqN_cons, sFor_ap]
  have it : iSeq (dSl (dVar 0) oNone (oSome (dC (.int 63)))) [some (.rol (ns.map D.int)), some (.int turn), some (.int own), some (.int (c3 + c4 * turn)), none] p = .ok (cut (ns.map D.int) none (some 63)) p := by simp
  rw [it, ok_sx, es, nxn_nx, seqN_nil, el, ok_thn]
  rfl
end DL

end
section
namespace DL
open PySem PySem.Spec L2
/-! ### constants of the module -/
section
variable {X : Cx} {W : WX} {own : List Nat} {pos : Pos}
/-- data that stand frozen in what the top wrote -/
inductive FrzK (K : PySem.W.Frag) : D → V → Prop where
  | int (i : Int) : FrzK K (.int i) (.int i)
  | str (x : Str) : FrzK K (.str x) (.str x)
  | bl (b : Bool) : FrzK K (.bl b) (.bl b)
  | non : FrzK K .non .non
  | tup0 {q : Addr} : SqT K (fun _ => none) q [] → FrzK K (.tup []) (.ref q)
  | tup1 {q : Addr} {d1 : D} {v1 : V} : SqT K (fun _ => none) q [v1] → FrzK K d1 v1 → FrzK K (.tup [d1]) (.ref q)
  | tup2 {q : Addr} {d1 d2 : D} {v1 v2 : V} : SqT K (fun _ => none) q [v1, v2] → FrzK K d1 v1 → FrzK K d2 v2 → FrzK K (.tup [d1, d2]) (.ref q)
  | tup3 {q : Addr} {d1 d2 d3 : D} {v1 v2 v3 : V} : SqT K (fun _ => none) q [v1, v2, v3] → FrzK K d1 v1 → FrzK K d2 v2 → FrzK K d3 v3 → FrzK K (.tup [d1, d2, d3]) (.ref q)
theorem FrzK.rep {K : PySem.W.Frag} {d : D} {v : V} (h : FrzK K d v) (g : G) (hg : g.K = K) (L : Addr → Prop) (H : Hp) : Rep g L H d v := by
  subst hg
  induction h with
  | int i => unfold Rep; rfl
  | str i => unfold Rep; rfl
  | bl i => unfold Rep; rfl
  | non => unfold Rep; rfl
  | tup0 h => unfold Rep; exact ⟨_, _, rfl, .inr h, Reps.nil⟩
  | tup1 h _ i1 => unfold Rep; exact ⟨_, _, rfl, .inr h, .cons i1 .nil⟩
  | tup2 h _ _ i1 i2 => unfold Rep; exact ⟨_, _, rfl, .inr h, .cons i1 (.cons i2 .nil)⟩
  | tup3 h _ _ _ i1 i2 i3 => unfold Rep; exact ⟨_, _, rfl, .inr h, .cons i1 (.cons i2 (.cons i3 .nil))⟩
/-- a constant by name -/
structure GK (K : PySem.W.Frag) (mg : Str → Option Value) (x : Str) (d : D) : Prop where
  ex : ∃ (v : V) (u : Value), mg x = some u ∧ RelV v u ∧ FrzK K d v
theorem pd_g {x : Str} {d : D} (h : GK X.K X.mg x d) (hg : Gl X x := by rfl) (hd : (x == ("__debug__" : Str)) = false := by decide) : PD X W own (.Name x pos) (dC d) := by
  obtain ⟨v, u, hm, rv, hf⟩ := h.ex
  exact pd_glob hg hm rv (fun g L H e _ => hf.rep g e L H) hd
theorem sqT_k {K : PySem.W.Frag} {q : Addr} {od : Option Addr} {its : Array Value} {n : Nat} {sl : Array (Option Value)} {vs : List V} (h : K.lookup q = some ⟨.type "tuple", od, .seq its n, sl⟩) (hs : its.size ≤ 1000) (rv : Vals vs its.toList) : SqT K (fun _ => none) q vs :=
  .inr ⟨_, its, n, h, rfl, rfl, by have := line10; omega, rv⟩
end
/-! ### methods of lists that change nothing -/
def OpM (K : PySem.W.Frag) (mg : Str → Option Value) (r : V → List V → Hp → VK → Prop) (op : D → List D → Option D) : Prop := ∀ (a : Option Addr) (L : Addr → Prop) (H : Hp) (x : D) (xs : List D) (d : D) (vx : V) (vs : List V) (Q : VK), (∀ q, L q → H q ≠ none) → Rep ⟨K, mg, a⟩ L H x vx → Reps ⟨K, mg, a⟩ L H xs vs →
  op x xs = some d → (∀ v H', Same H H' → Rep ⟨K, mg, a⟩ L H' d v → Q v H') → r vx vs H Q
def isLs : D → Bool
  | .lst _ => true
  | .rol _ => true
  | _ => false
def dM (op : D → List D → Option D) (f : DEnv → M D) (fs : DEnv → M (List D)) (ε : DEnv) : M D := f ε >>= fun x => if isLs x then fs ε >>= fun xs => liftO (op x xs) else M.fail
@[simp] theorem dM_ap (op : D → List D → Option D) (f : DEnv → M D) (fs : DEnv → M (List D)) (ε : DEnv) (p : Pool) : dM op f fs ε p = (f ε p).thn fun x p => if isLs x then (fs ε p).thn fun xs p => Out.ofO (op x xs) p else .bad := by
  show (f ε p).thn (fun x p' => (if isLs x then fs ε >>= fun xs => liftO (op x xs) else M.fail : M D) p') = _
  congr; funext x p'; split <;> rfl
section
variable {X : Cx} {W : WX} {own : List Nat} {e o : Expr} {es : List Expr} {apos cpos : Pos} {f : DEnv → M D} {fs : DEnv → M (List D)} {name : Str} {id : String} {r : V → List V → Hp → VK → Prop} {op : D → List D → Option D}
theorem ls_ty {g : G} {L : Addr → Prop} {H : Hp} {x : D} {v : V} (h : isLs x = true) (r : Rep g L H x v) : tyV g.K "list" v H := by
  cases x <;> try cases h
  · unfold Rep at r
    obtain ⟨q, vs, rfl, t, _⟩ := r
    exact .inl ⟨rfl, vs, t.sq⟩
  · unfold Rep at r
    obtain ⟨q, vs, rfl, t, _⟩ := r
    exact .inl ⟨rfl, vs, t.sq⟩
theorem pd_meth (slot : Slot "list" name id) (hty : typeOf (.builtin id) = pure (.type "method_descriptor")) (hm : MtR X id r) (hr : OpM X.K X.mg r op) (ho : PD X W own o f) (ha : PDA X W own (e :: es) fs)
    (hbase : attributeBase o name X.env (eval o X.env) = eval o X.env := by rfl)
    (hfew : ((backTo cpos (starEach (e :: es) X.env)).all (fun x => !x.1) && (backToKw cpos (keywordEach [] X.env)).all (fun x => x.1.isSome)
      && decide ((e :: es).length + ([] : List Keyword).length + (if ([] : List Keyword).isEmpty then 0 else 1) < 30)) = true := by rfl)
    (hline : (apos.endLine == cpos.line) = true := by rfl) (hs : starEach (e :: es) X.env = (false, eval e X.env) :: starEach es X.env := by rfl) (hplain : (backTo cpos (starEach es X.env)).any (·.1) = false := by rfl) :
    PD X W own (.Call (.Attribute o name apos) (e :: es) [] cpos) (dM op f fs) := (pe_bm PySem.F.plainAttrs_list slot hty hm ho ha hbase hfew hline hs hplain).imp fun σ H Q ⟨P, ε, p, rel, q⟩ => by
  refine tD.seq (k := fun x ε => if isLs x then fs ε >>= fun xs => liftO (op x xs) else M.fail) rel q fun x vx H1 p1 k1 r1 rx q1 => ?_
  split at q1
  · rename_i hl
    refine ⟨ls_ty hl rx, ?_⟩
    refine tDA.seq (k := fun xs _ => liftO (op x xs)) r1 q1 fun xs vs H2 p2 k2 r2 rxs q2 => ?_
    obtain ⟨d, e, q3⟩ := Post.lift q2
    exact hr P.a (L0 P) H2 x xs d vx vs Q r2.there (Rep.mono (k2.weak fun q h => .inr h) (fun _ h => .inl h) x vx rx) rxs e fun v H' s rv => q3 v H' ((k1.trans k2).trans (Kp.same s)) (r2.pool.kp s) rv
  · exact q1.elim
end
/-- xs.count(x) -/
def cntD : D → List D → Option D
  | .lst xs, [x] => if (sh 20 x && sh 20 (.lst xs)) = true then some (.int (xs.countP fun z => eqv z x)) else none
  | _, _ => none
def rCntP (K : PySem.W.Frag) : V → List V → Hp → VK → Prop := fun x xs H Q => ∃ (y : V) (d : PyData) (ds : List PyData), xs = [y] ∧ Dp K H x (.list ds) ∧ Dp K H y d ∧ PyData.plainAll ds = true ∧ d.plain = true ∧ d.depth ≤ 40 ∧ Q (.int ((ds.countP fun z => PyData.eqv z d : Nat) : Int)) H
theorem mt_cntP {X : Cx} (hu : X.A.units + 65 < cLine) : MtR X "list.count" (rCntP X.K) := by
  intro pins s σ H x xs v us Q I rx rxs h
  obtain ⟨y, d, ds, rfl, hl, hy, pl, pd, dd, q⟩ := h
  obtain ⟨u, rfl, ru⟩ := vone rxs
  obtain ⟨bs, r1⟩ := Dp.reads I d y u hy ru
  cases hl with
  | lst hs ha =>
    cases rx
    obtain ⟨its, rv, pp, hlen⟩ := I.list hs
    obtain ⟨as, h4⟩ := Dp.readsAll I ds _ its ha rv
    exact SeqAt.count_list_data (vs := its.toArray) pp.isList (show ReadsAll s.heap its.toArray.toList ds as from h4) r1 pl pd (by omega) ⟨.int _, H, I.tok _, ⟨_, rfl⟩, q⟩
theorem countP_toPys (x : D) : ∀ ds : List D, ((toPys ds).countP fun z => PyData.eqv z (toPy x)) = ds.countP fun z => eqv z x
  | [] => rfl
  | d :: ds => by
    show ((toPy d :: toPys ds).countP fun z => PyData.eqv z (toPy x)) = _
    rw [List.countP_cons, List.countP_cons, countP_toPys x ds]
    rfl
theorem o_cnt {K : PySem.W.Frag} {mg : Str → Option Value} : OpM K mg (rCntP K) cntD := by
  intro a L H x xs d vx vs Q hL rx rxs e q
  unfold cntD at e
  split at e
  · split at e
    · rename_i ds y h
      cases e
      rw [Bool.and_eq_true] at h
      obtain ⟨vy, rfl, ry⟩ := rxs.one
      obtain ⟨p1, d1⟩ := toPy_plain 20 y h.1
      obtain ⟨p2, d2⟩ := toPy_plain 20 _ h.2
      refine ⟨vy, toPy y, toPys ds, rfl, Rep.dp 20 _ vx h.2 rx, Rep.dp 20 y vy h.1 ry, by simpa only [toPy, PyData.plain] using p2, p1, by omega, ?_⟩
      rw [countP_toPys]
      exact q _ H (Same.refl H) (by unfold Rep; rfl)
    · cases e
  · cases e
@[simp] theorem cntD_l (xs : List D) (x : D) (h : (sh 20 x && sh 20 (.lst xs)) = true) : cntD (.lst xs) [x] = some (.int (xs.countP fun z => eqv z x)) := by
  show (if _ then _ else _) = _
  rw [if_pos h]
@[simp] theorem isLs_l (xs : List D) : isLs (.lst xs) = true := rfl
theorem pd_count {X : Cx} {W : WX} {own : List Nat} {e o : Expr} {apos cpos : Pos} {f : DEnv → M D} {fs : DEnv → M (List D)} (hu : X.A.units + 65 < cLine) (ho : PD X W own o f) (ha : PDA X W own [e] fs)
    (hbase : attributeBase o "count" X.env (eval o X.env) = eval o X.env := by rfl)
    (hfew : ((backTo cpos (starEach [e] X.env)).all (fun x => !x.1) && (backToKw cpos (keywordEach [] X.env)).all (fun x => x.1.isSome)
      && decide ([e].length + ([] : List Keyword).length + (if ([] : List Keyword).isEmpty then 0 else 1) < 30)) = true := by rfl)
    (hline : (apos.endLine == cpos.line) = true := by rfl) (hs : starEach [e] X.env = (false, eval e X.env) :: starEach [] X.env := by rfl) (hplain : (backTo cpos (starEach [] X.env)).any (·.1) = false := by rfl) :
    PD X W own (.Call (.Attribute o "count" apos) [e] [] cpos) (dM cntD f fs) := pd_meth PySem.F.slot_list_count (by rfl) (mt_cntP hu) o_cnt ho ha hbase hfew hline hs hplain
/-! ### times -/
@[simp] theorem mulD_l (xs : List D) (k : Int) (h : 0 ≤ k ∧ k ≤ 1000 ∧ xs.length ≤ 1000) : mulD (.lst xs) (.int k) = some (.lst (List.replicate k.toNat xs).flatten) := by
  show (if _ then _ else _) = _
  rw [if_pos h]
theorem mulD_t (xs : List D) (k : Int) (h : xs ≠ [] ∧ 2 ≤ k ∧ k ≤ 1000 ∧ xs.length ≤ 1000) : mulD (.tup xs) (.int k) = some (.tup (List.replicate k.toNat xs).flatten) := by
  show (if k = 1 then _ else if _ then _ else _) = _
  rw [if_neg (by omega), if_pos h]
theorem mulD_t1 (xs : List D) : mulD (.tup xs) (.int 1) = some (.tup xs) := rfl
end DL

end
section
namespace DL
open PySem PySem.Spec L2 PyProof.Rows
/-! ### t[::-1] -/
section
variable {prog : Program} {w : World} {A : Around} {E : Value → Shared → Prop} {s : Shared}
theorem sliceApplied_rev {sl : Addr} {vl vu vs : Value} {n : Nat} {Q : Int × Int × Nat → Shared → Prop} (hs : s.heap.IsSliceOf sl vl vu vs) (pl : IsPart vl none) (pu : IsPart vu none) (ps : IsPart vs (some (-1)))
    (h : Q ((n : Int) - 1, -1, n) s) : wpAny (model prog w) A (Builtin.Slice.sliceApplied (.ref sl) (pure (n : Int))) Q E s := by
  obtain ⟨os, hos, hcs, hds⟩ := id hs
  unfold Builtin.Slice.sliceApplied Builtin.Slice.sliceFields
  refine wpAny_bind (wpAny_bind (wpAny_field hos hds (x := vl) rfl (wpAny_bind (wpAny_field hos hds (x := vu) rfl (wpAny_bind (wpAny_field hos hds (x := vs) rfl (wpAny_pure ?_)))))))
  refine wpAny_bind (HT.slicePart_ ps ?_)
  show wpAny _ _ (if ((-1 : Int) == 0) = true then _ else _) _ _ s
  rw [if_neg (by decide)]
  refine wpAny_bind (HT.slicePart_ pl (wpAny_bind (HT.slicePart_ pu (wpAny_bind (wpAny_pure ?_)))))
  have e1 : Builtin.Slice.sliceAdjust none none (-1) (n : Int) = ((n : Int) - 1, -1) := rfl
  show wpAny _ _ (match Builtin.Slice.sliceAdjust none none (-1) (n : Int) with | (lo, hi) => pure (lo, (-1 : Int), Builtin.Slice.slicePlaces lo hi (-1))) _ _ s
  rw [e1]
  have e2 : Builtin.Slice.slicePlaces ((n : Int) - 1) (-1) (-1) = n := by
    unfold Builtin.Slice.slicePlaces
    rw [if_neg (by decide)]
    by_cases hn : n = 0
    · subst hn; decide
    · rw [if_pos (by omega)]
      have : ((n : Int) - 1 - -1 - 1) / (- -1) = (n : Int) - 1 := by
        rw [show (- -1 : Int) = 1 by decide, Int.ediv_one]; omega
      rw [this]; omega
  show wpAny _ _ (pure ((n : Int) - 1, (-1 : Int), Builtin.Slice.slicePlaces ((n : Int) - 1) (-1) (-1))) _ _ s
  rw [e2]
  exact wpAny_pure h
theorem pick_rev (xs : Array Value) : ((List.range xs.size).filterMap fun (m : Nat) => xs[(((xs.size : Int) - 1) + (m : Int) * (-1)).toNat]?).toArray = xs.toList.reverse.toArray := by
  congr 1
  apply List.ext_getElem?
  intro i
  have key : ∀ (k : Nat), k ≤ xs.size → ((List.range k).filterMap fun (m : Nat) => xs[(((xs.size : Int) - 1) + (m : Int) * (-1)).toNat]?) = xs.toList.reverse.take k := by
    intro k
    induction k with
    | zero => intro _; rfl
    | succ k ih =>
      intro hk
      rw [List.range_succ, List.filterMap_append, ih (by omega)]
      have e : (((xs.size : Int) - 1) + (k : Int) * (-1)).toNat = xs.size - 1 - k := by omega
      have g : xs[xs.size - 1 - k]? = xs.toList.reverse[k]? := by
        rw [List.getElem?_reverse (by simpa using (by omega : k < xs.size)), Array.length_toList, Array.getElem?_toList]
      rw [List.filterMap_cons, e, g]
      have hl : k < xs.toList.reverse.length := by simp; omega
      rw [List.getElem?_eq_getElem hl, List.filterMap_nil, List.take_add_one, List.getElem?_eq_getElem hl]
      rfl
  rw [key xs.size (Nat.le_refl _), List.take_of_length_le (by simp)]
theorem getItem_tuple_rev {t sl : Addr} {items : Array Value} {vl vu vs : Value} {Q : Value → Shared → Prop} (ht : IsTup s.heap t items) (hs : s.heap.IsSliceOf sl vl vu vs) (pl : IsPart vl none) (pu : IsPart vu none) (ps : IsPart vs (some (-1)))
    (h : Q (.ref s.heap.objs.size) { s with heap := s.heap.push { cls := .type "tuple", data := .seq items.toList.reverse.toArray } })
    (hsz : items.size ≤ sizeLine) : wpAny (model prog w) A (getItem (.ref t) (.ref sl)) Q E s := by
  have htake : sizeOk (.seq items.toList.reverse.toArray) := by
    show items.toList.reverse.toArray.size ≤ sizeLine
    rw [List.size_toArray, List.length_reverse, Array.length_toList]
    exact hsz
  obtain ⟨os, hos, hcs, hds⟩ := id hs
  have hTs : s.TypeIs (.ref sl) "slice" := ⟨os, hos, hcs⟩
  unfold getItem
  try with_reducible refine wpAny_holding ?_
  first | refine wpAny_bind (wpAny_pure ?_) | skip
  refine wpAny_bind (wpAny_sequenceKey ht.typeIs (by decide) ?_)
  refine wpAny_bind (wpAny_callSpecial?_slot (name := Str.ofString "__getitem__") ht.typeIs PyProof.Rows.slot_tuple_getitem
    (wpAny_call_entry PyProof.Rows.slot_tuple_getitem ht.typeIs entry_tuple_getitem ?_ (args_tuple_getitem _ _)))
  show wpAny _ _ (Builtin.Tuple.tupleItemsOf (.ref t) >>= _) _ _ s
  refine wpAny_bind (tupleItemsOf_ ht ?_)
  refine wpAny_bind (wpAny_typeOf hTs ?_)
  rw [if_pos (by decide)]
  refine wpAny_bind (sliceApplied_rev hs pl pu ps ?_)
  have hno : ¬ ((((items.size : Int) - 1) == 0 && (-1 : Int) == 1 && items.size == items.size) = true) := by
    intro q
    rw [Bool.and_eq_true, Bool.and_eq_true] at q
    exact absurd q.1.2 (by decide)
  show wpAny _ _ (if ((((items.size : Int) - 1) == 0 && (-1 : Int) == 1 && items.size == items.size) = true) then _ else _) _ _ s
  rw [if_neg hno, pick_rev]
  first
    | exact wpAny_bind (m := Builtin.Tuple.tupleExact _) (wpAny_newObj_type (wpAny_pure ⟨_, rfl, wpAny_pure h⟩) htake)
    | exact wpAny_bind (m := Builtin.Tuple.tupleExact _) (wpAny_newObj_type (wpAny_bind (wpAny_pure (wpAny_pure ⟨_, rfl, wpAny_pure h⟩))) htake)
    | exact wpAny_bind (wpAny_bind (m := Builtin.Tuple.tupleExact _) (wpAny_newObj_type (wpAny_pure (wpAny_pure ⟨_, rfl, wpAny_pure h⟩)) htake))
    | exact wpAny_bind (wpAny_bind (m := Builtin.Tuple.tupleExact _) (wpAny_newObj_type (wpAny_pure ⟨_, rfl, wpAny_pure h⟩) htake))
end
def tRev2 (K : PySem.W.Frag) (te : TE) : TE := fun σ H Q => te σ H fun x H1 => (∃ a xs, x = .ref a ∧ SqL K H1 a xs ∧ ∀ p, H1 p = none → Q (.ref p) (upd H1 p (.lst xs.reverse))) ∨ (∃ a xs, x = .ref a ∧ SqT K H1 a xs ∧ ∀ p, H1 p = none → Q (.ref p) (upd H1 p (.tup xs.reverse)))
theorem pe_rev2 {X : Cx} {e : Expr} {te : TE} {k : Nat} {p1 p2 p3 pos : Pos} (he : PE X e te) : PE X (.Subscript e (.Slice none none (some (.UnaryOp .USub (.Constant (.int 1) k p1) p2)) p3) pos) (tRev2 X.K te) := by
  refine ⟨fun pins s σ H Q I h => ?_⟩
  refine Subscript_ (thn (he.run pins s σ H _ I h) fun v s1 ⟨x, H1, I1, r1, q1⟩ => ?_)
  have hst : PO X (some (.UnaryOp .USub (.Constant (.int 1) k p1) p2)) (tPart (tUn (rU fun i => .int (-i)) (tC (.int 1)))) := po_some (pe_un un_neg pe_int)
  refine wpAny_Slice (thn (po_none.run pins s1 σ H1 (fun o H2 => o = none ∧ H2 = H1) I1 ⟨rfl, rfl⟩) fun vl s2 ⟨l, H2, I2, pl, el, e2⟩ => ?_)
  subst el e2
  refine thn (po_none.run pins s2 σ H2 (fun o H3 => o = none ∧ H3 = H2) I2 ⟨rfl, rfl⟩) fun vu s3 ⟨u, H3, I3, pu, eu, e3⟩ => ?_
  subst eu e3
  refine thn (hst.run pins s3 σ H3 (fun o H4 => o = some (-1) ∧ H4 = H3) I3 ⟨1, rfl, -1, rfl, rfl, rfl⟩) fun vs s4 ⟨o, H4, I4, ps, eo, e4⟩ => ?_
  subst eo e4
  have I5 : Inv X pins σ H4 { s4 with heap := s4.heap.push { cls := .type "slice", data := .fields #[vl, vu, vs] } } := I4.kept (t' := s4.toks) fun b ob q => Heap.get?_push_of_some _ q
  rcases q1 with ⟨a, xs, ex, hx, q⟩ | ⟨a, xs, ex, hx, q⟩
  · subst ex
    cases r1
    obtain ⟨its, r, ht, hz⟩ := I5.list hx
    have hlen := r.length
    show wpAny (model X.prog X.w) X.A (subscriptTail e (.Slice none none (some (.UnaryOp .USub (.Constant (.int 1) k p1) p2)) p3) (.ref a) (.ref s4.heap.objs.size)) (EP X pins σ Q) X.xe { s4 with heap := s4.heap.push { cls := .type "slice", data := .fields #[vl, vu, vs] } }
    refine tail_any (ops := [.ref a, .ref s4.heap.objs.size]) ht.isList.typeIs (PySem.slot_list_getitem.lookup) ?_ (by with_unfolding_all rfl)
    refine wpAny_getItem_list_slice ht.isList (Heap.IsSliceOf.new _ vl vu vs) pl pu ps (by decide) ?_ (by rw [List.size_toArray]; omega)
    rw [PySem.W.krv_pick]
    refine ⟨.ref _, _, I5.laid (t' := s4.toks) (o := .lst xs.reverse) (fun b ob q => Heap.get?_push_of_some _ q) (Nat.le_refl _) ?_, rfl, q _ (I5.hok.fresh (Nat.le_refl _))⟩
    exact ⟨by rw [List.length_reverse]; exact hz, _, 0, r.reverse, Heap.get?_push_size _ rfl⟩
  · subst ex
    cases r1
    obtain ⟨its, r, ht, hz⟩ := I5.tuple hx
    have hlen := r.length
    show wpAny (model X.prog X.w) X.A (subscriptTail e (.Slice none none (some (.UnaryOp .USub (.Constant (.int 1) k p1) p2)) p3) (.ref a) (.ref s4.heap.objs.size)) (EP X pins σ Q) X.xe { s4 with heap := s4.heap.push { cls := .type "slice", data := .fields #[vl, vu, vs] } }
    refine tail_any (ops := [.ref a, .ref s4.heap.objs.size]) (IsTup.typeIs ht) (PyProof.Rows.slot_tuple_getitem.lookup) ?_ (by with_unfolding_all rfl)
    refine getItem_tuple_rev ht (Heap.IsSliceOf.new _ vl vu vs) pl pu ps ?_ (by rw [List.size_toArray]; omega)
    refine ⟨.ref _, _, I5.laid (t' := s4.toks) (o := .tup xs.reverse) (fun b ob q => Heap.get?_push_of_some _ q) (Nat.le_refl _) ?_, rfl, q _ (I5.hok.fresh (Nat.le_refl _))⟩
    exact ⟨by rw [List.length_reverse]; exact hz, _, r.reverse, ⟨_, Heap.get?_push_size _ rfl, rfl, _, rfl⟩⟩
def revD : D → Option D
  | .tup ds => some (.tup ds.reverse)
  | .lst ds => some (.lst ds.reverse)
  | .rol ds => some (.lst ds.reverse)
  | _ => none
theorem pd_rev {X : Cx} {W : WX} {own : List Nat} {e : Expr} {f : DEnv → M D} {k : Nat} {p1 p2 p3 pos : Pos} (ha : PD X W own e f) : PD X W own (.Subscript e (.Slice none none (some (.UnaryOp .USub (.Constant (.int 1) k p1) p2)) p3) pos) (d1 revD f) := (pe_rev2 ha).imp fun σ H Q ⟨P, ε, p, rel, q⟩ => by
  refine tD.seq (k := fun x _ => liftO (revD x)) rel q fun x vx H1 p1 k1 r1 rx q1 => ?_
  obtain ⟨d, e, q2⟩ := Post.lift q1
  cases x <;> simp only [revD] at e <;> cases e <;> unfold Rep at rx
  · obtain ⟨y, vs, rfl, t, rs⟩ := rx
    exact .inr ⟨y, vs, rfl, t.sq, fun pp hp => q2 _ _ (k1.trans (Kp.new hp)) (r1.pool.kp (same_new hp)) (Rep.tup_new r1.there hp rs.reverse)⟩
  · obtain ⟨y, vs, rfl, t, rs⟩ := rx
    exact .inl ⟨y, vs, rfl, t.sq, fun pp hp => q2 _ _ (k1.trans (Kp.new hp)) (r1.pool.kp (same_new hp)) (Rep.lst_new r1.there hp rs.reverse)⟩
  · obtain ⟨y, vs, rfl, t, rs⟩ := rx
    exact .inl ⟨y, vs, rfl, t.sq, fun pp hp => q2 _ _ (k1.trans (Kp.new hp)) (r1.pool.kp (same_new hp)) (Rep.lst_new r1.there hp rs.reverse)⟩
@[simp] theorem revD_t (ds : List D) : revD (.tup ds) = some (.tup ds.reverse) := rfl
@[simp] theorem revD_l (ds : List D) : revD (.lst ds) = some (.lst ds.reverse) := rfl
end DL

end
section
namespace DL
open PySem PySem.Spec L2 PyProof.Rows
/-! ### enumerate, zip -/
def enumF (k : Int) : List D → List D
  | [] => []
  | d :: ds => .tup [.int k, d] :: enumF (k + 1) ds
theorem enumF_len : ∀ (ds : List D) (k : Int), (enumF k ds).length = ds.length
  | [], _ => rfl
  | d :: ds, k => by simp only [enumF, List.length_cons, enumF_len ds]
theorem enumF_get : ∀ (ds : List D) (k : Int) (i : Nat), (enumF k ds)[i]? = ds[i]?.map fun d => .tup [.int (k + i), d]
  | [], _, _ => by simp [enumF]
  | d :: ds, k, 0 => by simp [enumF]
  | d :: ds, k, i + 1 => by
    simp only [enumF, List.getElem?_cons_succ, enumF_get ds]
    have : k + 1 + (i : Int) = k + ((i + 1 : Nat) : Int) := by omega
    rw [this]
def zipF (xs ys : List D) : List D := List.zipWith (fun a b => D.tup [a, b]) xs ys
def enumD : List D → Option (List D)
  | [.lst ds] => some (enumF 0 ds)
  | [.rol ds] => some (enumF 0 ds)
  | _ => none
def zipD : List D → Option (List D)
  | [.lst xs, .lst ys] => some (zipF xs ys)
  | [.tup xs, .tup ys] => some (zipF xs ys)
  | _ => none
@[simp] theorem enumD_l (ds : List D) : enumD [.lst ds] = some (enumF 0 ds) := rfl
@[simp] theorem zipD_l (xs ys : List D) : zipD [.lst xs, .lst ys] = some (zipF xs ys) := rfl
@[simp] theorem zipD_t (xs ys : List D) : zipD [.tup xs, .tup ys] = some (zipF xs ys) := rfl
section
variable {K : PySem.W.Frag} {mg : Str → Option Value} {P : FP K mg} {M L : Addr → Prop} {H1 : Hp}
theorem itok_pair {J : It} {n : Nat} {Gd : Hp → Prop} {fx fy : Nat → Option V} {ds : List D} (w : Walk J n Gd (YPair fx fy)) (hG : ∀ H2, Kp M H1 H2 → Gd H2) (hlen : ds.length = n)
    (hd : ∀ i H2 (L' : Addr → Prop), i < n → Kp M H1 H2 → (∀ q, L' q → L0 P q ∨ H1 q = none) → ∃ d1 d2, ds[i]? = some (.tup [d1, d2]) ∧ ∀ x y, fx i = some x → fy i = some y → Rep P.g L' H2 d1 x ∧ Rep P.g L' H2 d2 y) : ItOk P M J ds H1 := by
  refine ⟨Gd, YPair fx fy, by rw [hlen]; exact w, hG, fun i H2 x H3 L' hi k hl ht y => ?_⟩
  rw [hlen] at hi
  obtain ⟨d1, d2, ed, hr⟩ := hd i H2 L' hi k hl
  obtain ⟨T, a, b, rfl, hT, rfl, ha, hb⟩ := y
  obtain ⟨r1, r2⟩ := hr a b ha hb
  exact ⟨same_new hT, _, ed, Rep.tup_new ht hT (.cons r1 (.cons r2 .nil))⟩
theorem rep_at {g : G} {L L' : Addr → Prop} {H1 H2 : Hp} {ds : List D} {vs : List V} {i : Nat} (rs : Reps g L H1 ds vs) (hi : i < ds.length) (k : Kp L H1 H2) (hl : ∀ q, L' q → L q ∨ H1 q = none) : ∃ d, ds[i]? = some d ∧ ∀ x, vs[i]? = some x → Rep g L' H2 d x := by
  obtain ⟨d, ed⟩ := lt_get hi
  obtain ⟨v, ev, rv⟩ := rs.get ed
  refine ⟨d, ed, fun x ex => ?_⟩
  have exv : v = x := Option.some.inj (ev.symm.trans ex)
  rw [← exv]
  exact Rep.mono k hl d v rv
/-- L: what the list and its items lean not on; M: what may change -/
theorem itok_enum {q : Addr} {vs : List V} {ds : List D} (hM : ∀ q, M q → L q) (hL0 : ∀ q, L0 P q → L q) (ta : RolAt K L H1 q vs) (rs : Reps P.g L H1 ds vs) : ItOk P M (Ite K q) (enumF 0 ds) H1 := by
  have hl := rs.length
  refine itok_pair (walk_enum (xs := vs)) (fun H2 k => (ta.mono (k.weak hM) (fun _ h => .inl h)).sq) (by rw [enumF_len, hl]) fun i H2 L' hi k hl' => ?_
  obtain ⟨d, ed, hr⟩ := rep_at rs (show i < ds.length by omega) (k.weak hM) (fun q h => (hl' q h).imp (hL0 q) id)
  refine ⟨.int (0 + i), d, by rw [enumF_get, ed]; rfl, fun x y hx hy => ⟨?_, hr y hy⟩⟩
  cases hx
  unfold Rep
  congr 1
  omega
theorem zip_get {xs ys : List D} {i : Nat} {a b : D} (h1 : xs[i]? = some a) (h2 : ys[i]? = some b) : (zipF xs ys)[i]? = some (.tup [a, b]) := by
  unfold zipF
  rw [List.getElem?_zipWith, h1, h2]
theorem itok_zipL {q q2 : Addr} {vs ws : List V} {ds es : List D} (hM : ∀ q, M q → L q) (hL0 : ∀ q, L0 P q → L q) (ta : RolAt K L H1 q vs) (rs : Reps P.g L H1 ds vs) (ta2 : RolAt K L H1 q2 ws) (rs2 : Reps P.g L H1 es ws) : ItOk P M (Itz K q q2) (zipF ds es) H1 := by
  have hl := rs.length
  have hl2 := rs2.length
  refine itok_pair (walk_zip (xs := vs) (ys := ws) rfl) (fun H2 k => ⟨(ta.mono (k.weak hM) (fun _ h => .inl h)).sq, (ta2.mono (k.weak hM) (fun _ h => .inl h)).sq⟩) (by rw [zipF, List.length_zipWith, hl, hl2]) fun i H2 L' hi k hl' => ?_
  obtain ⟨d, ed, hr⟩ := rep_at rs (show i < ds.length by omega) (k.weak hM) (fun q h => (hl' q h).imp (hL0 q) id)
  obtain ⟨d2, ed2, hr2⟩ := rep_at rs2 (show i < es.length by omega) (k.weak hM) (fun q h => (hl' q h).imp (hL0 q) id)
  exact ⟨d, d2, zip_get ed ed2, fun x y hx hy => ⟨hr x hx, hr2 y hy⟩⟩
theorem walk_zipT {a b : Addr} {xs ys : List V} : Walk (RZ.ItzT K a b) (min xs.length ys.length) (fun H => SqT K H a xs ∧ SqT K H b ys) (YPair (fun i => xs[i]?) (fun i => ys[i]?)) := by
  refine ⟨fun i _ hi q => ?_, fun _ q => ⟨xs, ys, q.1, q.2, by omega⟩, fun i H v H' _ q y => ?_⟩
  · have h1 : i < xs.length := by omega
    have h2 : i < ys.length := by omega
    exact ⟨xs, ys, xs[i], ys[i], q.1, q.2, by simp [h1], by simp [h2]⟩
  · obtain ⟨T, x, z, h1, h2, h3, h4, h5⟩ := y
    exact ⟨T, x, z, h1, h2, h3, h4 xs q.1, h5 ys q.2⟩
theorem itok_zipT {q q2 : Addr} {vs ws : List V} {ds es : List D} (hM : ∀ q, M q → L q) (hL0 : ∀ q, L0 P q → L q) (ta : TupAt K L H1 q vs) (rs : Reps P.g L H1 ds vs) (ta2 : TupAt K L H1 q2 ws) (rs2 : Reps P.g L H1 es ws) : ItOk P M (RZ.ItzT K q q2) (zipF ds es) H1 := by
  have hl := rs.length
  have hl2 := rs2.length
  refine itok_pair (walk_zipT (xs := vs) (ys := ws)) (fun H2 k => ⟨(ta.mono (k.weak hM) (fun _ h => .inl h)).sq, (ta2.mono (k.weak hM) (fun _ h => .inl h)).sq⟩) (by rw [zipF, List.length_zipWith, hl, hl2]) fun i H2 L' hi k hl' => ?_
  obtain ⟨d, ed, hr⟩ := rep_at rs (show i < ds.length by omega) (k.weak hM) (fun q h => (hl' q h).imp (hL0 q) id)
  obtain ⟨d2, ed2, hr2⟩ := rep_at rs2 (show i < es.length by omega) (k.weak hM) (fun q h => (hl' q h).imp (hL0 q) id)
  exact ⟨d, d2, zip_get ed ed2, fun x y hx hy => ⟨hr x hx, hr2 y hy⟩⟩
end
section
variable {X : Cx} {W : WX} {own : List Nat} {a b : Expr} {pos p p2 tpos : Pos} {fs : DEnv → M (List D)} {elts : List Expr} {kk : Nat} {st : Bool}
theorem pdi_enum (hm : X.mg "enumerate" = none) (ha : PDA X W own [a] fs) (hw : (∀ (K : PySem.W.Frag) (mg : Str → Option Value) (P : FP K mg) σ q, MM P own σ st q → L0 P q) := by first | exact fun _ _ _ _ _ h => MM.weak h | exact fun _ _ _ _ _ h => MM.toL0 h)
    (hg : Gl X "enumerate" := by rfl) (hs : starEach [a] X.env = [(false, eval a X.env)] := by rfl) : PDI X W own st (.Tuple elts kk tpos) (.Call (.Name "enumerate" p) [a] [] pos) (iO enumD fs) := (pi_enum hg hm ha hs).imp fun σ H R ⟨P, ε, p, r, q⟩ => by
  refine tDA.iq (k := fun d _ => liftO (enumD d)) r q fun x v H1 p1 k1 r1 rv q1 => ?_
  obtain ⟨ds, e, q2⟩ := Post.lift q1
  have hM := hw X.K X.mg P σ
  unfold enumD at e
  split at e
  · cases e
    obtain ⟨w, rfl, rw1⟩ := rv.one
    unfold Rep at rw1
    obtain ⟨y, vs, rfl, ta, rs⟩ := rw1
    exact ⟨y, vs, rfl, ta.sq, q2 _ H1 (Kp.refl _ _) r1.pool (itok_enum hM (fun _ h => h) (.inl ⟨ta.1, .inl ta.2⟩) rs)⟩
  · cases e
    obtain ⟨w, rfl, rw1⟩ := rv.one
    unfold Rep at rw1
    obtain ⟨y, vs, rfl, ta, rs⟩ := rw1
    exact ⟨y, vs, rfl, ta.sq, q2 _ H1 (Kp.refl _ _) r1.pool (itok_enum hM (fun _ h => h) ta rs)⟩
  · cases e
theorem pdi_zip (hm : X.mg "zip" = none) (ha : PDA X W own [a, b] fs) (hw : (∀ (K : PySem.W.Frag) (mg : Str → Option Value) (P : FP K mg) σ q, MM P own σ st q → L0 P q) := by first | exact fun _ _ _ _ _ h => MM.weak h | exact fun _ _ _ _ _ h => MM.toL0 h)
    (hg : Gl X "zip" := by rfl) (hs : starEach [a, b] X.env = (false, eval a X.env) :: starEach [b] X.env := by rfl) (hpl : (backTo pos (starEach [b] X.env)).any (·.1) = false := by rfl) : PDI X W own st (.Tuple elts kk tpos) (.Call (.Name "zip" p) [a, b] [] pos) (iO zipD fs) := (RZ.pi_zipA hg hm ha hs hpl).imp fun σ H R ⟨P, ε, p, r, q⟩ => by
  refine tDA.iq (k := fun d _ => liftO (zipD d)) r q fun x v H1 p1 k1 r1 rv q1 => ?_
  obtain ⟨ds, e, q2⟩ := Post.lift q1
  have hM := hw X.K X.mg P σ
  unfold zipD at e
  split at e
  · cases e
    obtain ⟨w, w', rfl, rw1, rw2⟩ := rv.two
    unfold Rep at rw1 rw2
    obtain ⟨y, vs, rfl, ta, rs⟩ := rw1
    obtain ⟨y2, ws, rfl, ta2, rs2⟩ := rw2
    exact ⟨y, y2, vs, ws, rfl, .inl ⟨ta.sq, ta2.sq, q2 _ H1 (Kp.refl _ _) r1.pool (itok_zipL hM (fun _ h => h) (.inl ⟨ta.1, .inl ta.2⟩) rs (.inl ⟨ta2.1, .inl ta2.2⟩) rs2)⟩⟩
  · cases e
    obtain ⟨w, w', rfl, rw1, rw2⟩ := rv.two
    unfold Rep at rw1 rw2
    obtain ⟨y, vs, rfl, ta, rs⟩ := rw1
    obtain ⟨y2, ws, rfl, ta2, rs2⟩ := rw2
    exact ⟨y, y2, vs, ws, rfl, .inr ⟨ta.sq, ta2.sq, q2 _ H1 (Kp.refl _ _) r1.pool (itok_zipT hM (fun _ h => h) ta rs ta2 rs2)⟩⟩
  · cases e
end
end DL

end
section
/-! enumerate(zip(t, u)), t and u tuples: the zip's own tuple is out while the pairs are counted. Its cell is told by its first two fields, whatever they are -/
namespace EZ
open PySem PySem.Spec L2 PyProof.Rows RZ
abbrev ZG (h : Heap) (z TI TO : Addr) (q : Value) (f : Bool) : Prop := h.get? z = some { cls := .type "zip", dict := none, data := .fields #[q, .bool f, .bool false, .ref TI, .ref TO], slots := #[] }
/-- no tuple is out, or one was handed out once -/
def Qz (q : Value) : Prop := q = .none ∨ ∃ T : Addr, q = rawInt T
section
variable {prog : Program} {w : World} {A : Around} {E : Value → Shared → Prop} {s : Shared}
theorem freeOr {z TI TO : Addr} {q : Value} {f : Bool} {R : Bool → Shared → Prop} (hz : ZG s.heap z TI TO q f) (hq : Qz q) (h1 : R true s) (h2 : ∀ (h' : Heap) (T : Addr), q = rawInt T → ZG h' z TI TO (rawInt T) true → Heap.SameBut z s.heap h' → R false { s with heap := h' }) :
    wpAny (model prog w) A (Builtin.SmallTypes.ownedTupleIsFree (.ref z)) R E s := by
  rcases hq with rfl | ⟨T, rfl⟩
  · unfold Builtin.SmallTypes.ownedTupleIsFree
    exact wpAny_bind (wpAny_field hz rfl (x := .none) rfl (wpAny_pure h1))
  · cases e : s.heap.get? T with
    | some o => exact wpAny_tupleHeld_zip (f := f) hz e fun h' a b => h2 h' T rfl a b
    | none =>
      unfold Builtin.SmallTypes.ownedTupleIsFree
      refine wpAny_bind (wpAny_field hz rfl (x := rawInt T) rfl ?_)
      show wpAny _ _ (loadIfAlive ((T : Int).toNat) >>= _) _ _ _
      rw [Int.toNat_natCast]
      have al : ∀ R' : Option Obj → Shared → Prop, R' none s → wpAny (model prog w) A (loadIfAlive T) R' E s := fun R' hr => by
        have h' : R' (s.heap.get? T) s := by rw [e]; exact hr
        exact fun _ _ _ => h'
      exact wpAny_bind (al _ (wpAny_pure h1))
variable {z TI TO i1 i2 l1 l2 : Addr} {q : Value} {f : Bool} {k1 k2 : Nat} {xs ys : Array Value} {x y a b : Value}
/-- what a zip leaves -/
structure After (h h' : Heap) (z TI TO i1 i2 l1 l2 : Addr) (k1 k2 : Nat) (x y : Value) (T : Addr) : Prop where
  cell : ∃ q f, ZG h' z TI TO q f ∧ Qz q
  to : ∃ a b, IsPair h' TO a b
  it1 : h'.IsTupleIter i1 l1 (k1 + 1)
  it2 : h'.IsTupleIter i2 l2 (k2 + 1)
  new : IsPair h' T x y
  size : h'.objs.size = h.objs.size + 1
  keep : ∀ c o, c ≠ z → c ≠ TO → c ≠ i1 → c ≠ i2 → h.get? c = some o → h'.get? c = some o
theorem zip_item (D : ZipApart z TI TO i1 i2 l1 l2) (hz : ZG s.heap z TI TO q f) (hq : Qz q) (hTI : IsPair s.heap TI (.ref i1) (.ref i2)) (hTO : IsPair s.heap TO a b) (h1 : s.heap.IsTupleIter i1 l1 k1) (h2 : s.heap.IsTupleIter i2 l2 k2) (hl1 : s.heap.IsTuple l1 xs) (hl2 : s.heap.IsTuple l2 ys)
    (hx : xs[k1]? = some x) (hy : ys[k2]? = some y) {Q : Value → Shared → Prop} (hQ : ∀ h', After s.heap h' z TI TO i1 i2 l1 l2 k1 k2 x y s.heap.objs.size → Q (.ref s.heap.objs.size) { s with heap := h' }) :
    wpAny (model prog w) A (Builtin.«zip.__next__» ⟨[.ref z], []⟩) (fun fin s' => ∃ v, fin = .done (.ret v) ∧ Q v s') E s := by
  show wpAny _ _ (field (.ref z) 2 >>= _) _ _ _
  refine wpAny_bind (wpAny_field hz rfl (x := .bool false) rfl ?_)
  show wpAny _ _ (field (.ref z) 3 >>= _) _ _ _
  refine wpAny_bind (wpAny_field hz rfl (x := .ref TI) rfl ?_)
  refine wpAny_bind (wpAny_seqItems hTI rfl ?_)
  show wpAny _ _ (Builtin.SmallTypes.ownedTupleIsFree (.ref z) >>= _) _ _ _
  refine wpAny_bind (freeOr hz hq ?_ fun h₁ T _ hz₁ hs₁ => ?_)
  · -- the own tuple is taken again
    simp only [if_true]
    refine wpAny_bind (wpAny_rule ?_)
    refine wpAny_bind (wpAny_field hz rfl (x := .ref TO) rfl ?_)
    refine wpAny_bind (wpAny_setField_rec hz (by simp) fun h₁ hz₁ hs₁ => ?_)
    replace hz₁ : ZG h₁ z TI TO .ellipsis f := hz₁
    refine wpAny_bind ?_
    simp only [List.zipIdx_cons, List.zipIdx_nil, List.forIn_cons, List.forIn_nil]
    refine wpAny_bind (wpAny_bind (wpAny_onRaise ?_))
    show wpAny _ _ (Builtin.SmallTypes.nextOf (.ref i1) >>= _) _ _ _
    refine wpAny_bind (nextOf_tuple_item (h1.extBut hs₁.extBut D.i1z) (hl1.extBut hs₁.extBut D.l1z) hx fun h₂ h1₂ hs₂ => wpAny_pure ?_)
    have hTO₂ : IsPair h₂ TO a b := hs₂.extBut _ _ D.TOi1 (hs₁.extBut _ _ D.TOz hTO)
    refine wpAny_bind (wpAny_seqItems hTO₂ rfl ?_)
    refine wpAny_bind (wpAny_updateSeq_pair hTO₂ fun h₃ hTO₃ hs₃ => ?_)
    replace hTO₃ : IsPair h₃ TO x b := hTO₃
    refine wpAny_bind (wpAny_letGo (wpAny_pure ?_))
    refine wpAny_bind (wpAny_bind (wpAny_onRaise ?_))
    show wpAny _ _ (Builtin.SmallTypes.nextOf (.ref i2) >>= _) _ _ _
    refine wpAny_bind (nextOf_tuple_item (((h2.extBut hs₁.extBut D.i2z).extBut hs₂.extBut D.i12.symm).extBut hs₃.extBut D.TOi2.symm) (((hl2.extBut hs₁.extBut D.l2z).extBut hs₂.extBut D.l2i1).extBut hs₃.extBut D.l2TO) hy fun h₄ h2₄ hs₄ => wpAny_pure ?_)
    have hTO₄ : IsPair h₄ TO x b := hs₄.extBut _ _ D.TOi2 hTO₃
    refine wpAny_bind (wpAny_seqItems hTO₄ rfl ?_)
    refine wpAny_bind (wpAny_updateSeq_pair hTO₄ fun h₅ hTO₅ hs₅ => ?_)
    replace hTO₅ : IsPair h₅ TO x y := hTO₅
    refine wpAny_bind (wpAny_letGo (wpAny_pure (wpAny_pure ?_)))
    refine wpAny_bind (wpAny_seqItems hTO₅ rfl ?_)
    refine wpAny_bind (wpAny_newTuple ?_)
    have hsz : h₅.objs.size = s.heap.objs.size := by rw [hs₅.1, hs₄.1, hs₃.1, hs₂.1, hs₁.1]
    have hz₅ : ZG h₅ z TI TO .ellipsis f := hs₅.extBut _ _ D.TOz.symm (hs₄.extBut _ _ D.i2z.symm (hs₃.extBut _ _ D.TOz.symm (hs₂.extBut _ _ D.i1z.symm hz₁)))
    have hk₅ : ∀ c o, c ≠ z → c ≠ TO → c ≠ i1 → c ≠ i2 → s.heap.get? c = some o → h₅.get? c = some o := fun c o c1 c2 c3 c4 e => hs₅.extBut _ _ c2 (hs₄.extBut _ _ c4 (hs₃.extBut _ _ c2 (hs₂.extBut _ _ c3 (hs₁.extBut _ _ c1 e))))
    have h1₅ : h₅.IsTupleIter i1 l1 (k1 + 1) := ((h1₂.extBut hs₃.extBut D.TOi1.symm).extBut hs₄.extBut D.i12).extBut hs₅.extBut D.TOi1.symm
    have h2₅ : h₅.IsTupleIter i2 l2 (k2 + 1) := h2₄.extBut hs₅.extBut D.TOi2.symm
    have hzlt : z < h₅.objs.size := Heap.lt_size hz₅
    show wpAny _ _ (Builtin.SmallTypes.ownedTupleHandOut (.ref z) (.ref h₅.objs.size) >>= _) _ _ _
    refine wpAny_bind ?_
    unfold Builtin.SmallTypes.ownedTupleHandOut
    have hz₆ : ZG (h₅.push { cls := .type "tuple", data := .seq #[x, y] }) z TI TO .ellipsis f := Heap.get?_push_of_some _ hz₅
    refine wpAny_bind (wpAny_setField_rec hz₆ (by simp) fun h₇ hz₇ hs₇ => ?_)
    replace hz₇ : ZG h₇ z TI TO (rawInt h₅.objs.size) f := hz₇
    refine wpAny_setField_rec hz₇ (by simp) fun h₈ hz₈ hs₈ => ?_
    replace hz₈ : ZG h₈ z TI TO (rawInt h₅.objs.size) false := hz₈
    have up : ∀ c o, c ≠ z → h₅.get? c = some o → h₈.get? c = some o := fun c o c1 e => hs₈.extBut _ _ c1 (hs₇.extBut _ _ c1 (Heap.get?_push_of_some _ e))
    have hT₈ : IsPair h₈ h₅.objs.size x y := hs₈.extBut _ _ (Nat.ne_of_gt hzlt) (hs₇.extBut _ _ (Nat.ne_of_gt hzlt) (Heap.get?_push_size _ rfl))
    have hz8 : h₈.objs.size = h₅.objs.size + 1 := by rw [hs₈.1, hs₇.1, Heap.size_push]
    rw [hsz] at hT₈ hz8
    refine wpAny_pure ⟨_, rfl, ?_⟩
    show Q (.ref h₅.objs.size) _
    rw [hsz]
    exact hQ h₈ ⟨⟨_, _, hz₈, .inr ⟨_, rfl⟩⟩, ⟨_, _, up _ _ D.TOz hTO₅⟩, h1₅.at fun o e => up _ o D.i1z e, h2₅.at fun o e => up _ o D.i2z e, hT₈, hz8, fun c o c1 c2 c3 c4 e => up c o c1 (hk₅ c o c1 c2 c3 c4 e)⟩
  · -- a new one
    simp only [Bool.false_eq_true, if_false]
    refine wpAny_bind ?_
    rw [← Array.forIn_toList]
    simp only [List.forIn_cons, List.forIn_nil]
    refine wpAny_bind (wpAny_bind (wpAny_holding ?_))
    show wpAny _ _ (Builtin.SmallTypes.nextOf (.ref i1) >>= _) _ _ _
    refine wpAny_bind (nextOf_tuple_item (s := { s with heap := h₁ }) (h1.extBut hs₁.extBut D.i1z) (hl1.extBut hs₁.extBut D.l1z) hx fun h₂ h1₂ hs₂ => wpAny_pure ?_)
    refine wpAny_pure ?_
    refine wpAny_bind (wpAny_bind (wpAny_holding ?_))
    show wpAny _ _ (Builtin.SmallTypes.nextOf (.ref i2) >>= _) _ _ _
    refine wpAny_bind (nextOf_tuple_item (s := { s with heap := h₂ }) ((h2.extBut hs₁.extBut D.i2z).extBut hs₂.extBut D.i12.symm) ((hl2.extBut hs₁.extBut D.l2z).extBut hs₂.extBut D.l2i1) hy fun h₃ h2₃ hs₃ => wpAny_pure ?_)
    refine wpAny_pure (wpAny_pure ?_)
    show wpAny _ _ (newTuple [x, y] >>= _) _ _ _
    refine wpAny_bind (wpAny_newTuple ?_)
    have hsz : h₃.objs.size = s.heap.objs.size := by rw [hs₃.1, hs₂.1, hs₁.1]
    have hz₃ : ZG h₃ z TI TO (rawInt T) true := hs₃.extBut _ _ D.i2z.symm (hs₂.extBut _ _ D.i1z.symm hz₁)
    have hTO₃ : IsPair h₃ TO a b := hs₃.extBut _ _ D.TOi2 (hs₂.extBut _ _ D.TOi1 (hs₁.extBut _ _ D.TOz hTO))
    have hk : ∀ c o, c ≠ z → c ≠ i1 → c ≠ i2 → s.heap.get? c = some o → h₃.get? c = some o := fun c o c1 c2 c3 e => hs₃.extBut _ _ c3 (hs₂.extBut _ _ c2 (hs₁.extBut _ _ c1 e))
    have h1₃ : h₃.IsTupleIter i1 l1 (k1 + 1) := h1₂.extBut hs₃.extBut D.i12
    refine wpAny_pure ⟨_, rfl, ?_⟩
    show Q (.ref h₃.objs.size) _
    have hp : IsPair (h₃.push { cls := .type "tuple", data := .seq #[x, y] }) h₃.objs.size x y := Heap.get?_push_size _ rfl
    have hz4 : (h₃.push { cls := .type "tuple", data := .seq #[x, y] }).objs.size = h₃.objs.size + 1 := Heap.size_push ..
    rw [hsz] at hp hz4 ⊢
    exact hQ _ ⟨⟨_, _, Heap.get?_push_of_some _ hz₃, .inr ⟨_, rfl⟩⟩, ⟨_, _, Heap.get?_push_of_some _ hTO₃⟩, h1₃.at fun o e => Heap.get?_push_of_some _ e, h2₃.at fun o e => Heap.get?_push_of_some _ e, hp, hz4, fun c o c1 _ c3 c4 e => Heap.get?_push_of_some _ (hk c o c1 c3 c4 e)⟩
theorem next_zip_item (D : ZipApart z TI TO i1 i2 l1 l2) (hz : ZG s.heap z TI TO q f) (hq : Qz q) (hTI : IsPair s.heap TI (.ref i1) (.ref i2)) (hTO : IsPair s.heap TO a b) (h1 : s.heap.IsTupleIter i1 l1 k1) (h2 : s.heap.IsTupleIter i2 l2 k2) (hl1 : s.heap.IsTuple l1 xs) (hl2 : s.heap.IsTuple l2 ys)
    (hx : xs[k1]? = some x) (hy : ys[k2]? = some y) {Q : Value → Shared → Prop} (hQ : ∀ h', After s.heap h' z TI TO i1 i2 l1 l2 k1 k2 x y s.heap.objs.size → Q (.ref s.heap.objs.size) { s with heap := h' }) :
    wpAny (model prog w) A (Builtin.SmallTypes.nextOf (.ref z)) Q E s := by
  have hT : s.TypeIs (.ref z) "zip" := ⟨_, hz, rfl⟩
  unfold Builtin.SmallTypes.nextOf
  exact wpAny_bind (wpAny_callSpecial?_slot (name := Str.ofString "__next__") hT F.slot_zip_next (wpAny_call_entry F.slot_zip_next hT F.entry_zip_next (zip_item D hz hq hTI hTO h1 h2 hl1 hl2 hx hy fun h' a => wpAny_pure (hQ h' a)) (F.args_zip_next_1 _)))
theorem zip_end (hh : A.handled = none) (D : ZipApart z TI TO i1 i2 l1 l2) (hz : ZG s.heap z TI TO q f) (hq : Qz q) (hTI : IsPair s.heap TI (.ref i1) (.ref i2)) (hTO : IsPair s.heap TO a b) (h1 : s.heap.IsTupleIter i1 l1 k1) (h2 : s.heap.IsTupleIter i2 l2 k2) (hl1 : s.heap.IsTuple l1 xs) (hl2 : s.heap.IsTuple l2 ys)
    (hend : xs[k1]? = none ∨ ys[k2]? = none) {Q : Fin → Shared → Prop} (hE : ∀ h' e, (∀ c o, c ≠ z → c ≠ TO → c ≠ i1 → c ≠ i2 → s.heap.get? c = some o → h'.get? c = some o) → (∃ o, h'.get? e = some o ∧ o.cls = .type "StopIteration") → E (.ref e) { s with heap := h' }) :
    wpAny (model prog w) A (Builtin.«zip.__next__» ⟨[.ref z], []⟩) Q E s := by
  show wpAny _ _ (field (.ref z) 2 >>= _) _ _ _
  refine wpAny_bind (wpAny_field hz rfl (x := .bool false) rfl ?_)
  show wpAny _ _ (field (.ref z) 3 >>= _) _ _ _
  refine wpAny_bind (wpAny_field hz rfl (x := .ref TI) rfl ?_)
  refine wpAny_bind (wpAny_seqItems hTI rfl ?_)
  show wpAny _ _ (Builtin.SmallTypes.ownedTupleIsFree (.ref z) >>= _) _ _ _
  refine wpAny_bind (freeOr hz hq ?_ fun h₁ T _ hz₁ hs₁ => ?_)
  · simp only [if_true]
    refine wpAny_bind (wpAny_rule ?_)
    refine wpAny_bind (wpAny_field hz rfl (x := .ref TO) rfl ?_)
    refine wpAny_bind (wpAny_setField_rec hz (by simp) fun h₁ hz₁ hs₁ => ?_)
    replace hz₁ : ZG h₁ z TI TO .ellipsis f := hz₁
    refine wpAny_bind ?_
    simp only [List.zipIdx_cons, List.zipIdx_nil, List.forIn_cons, List.forIn_nil]
    refine wpAny_bind (wpAny_bind (wpAny_onRaise ?_))
    show wpAny _ _ (Builtin.SmallTypes.nextOf (.ref i1) >>= _) _ _ _
    cases hx : xs[k1]? with
    | none =>
      refine wpAny_bind (nextOf_tuple_end hh (h1.extBut hs₁.extBut D.i1z) (hl1.extBut hs₁.extBut D.l1z) hx fun h₂ e hs₂ he => ?_)
      obtain ⟨oe, hoe, hce⟩ := he
      have hz₂ : ZG h₂ z TI TO .ellipsis f := hs₂ _ _ D.i1z.symm hz₁
      have hez : e ≠ z := fun x => by subst x; rw [hz₂] at hoe; cases hoe; simp at hce
      refine wpAny_setField_rec hz₂ (by simp) fun h₃ _ hs₃ => hE h₃ e (fun c o c1 _ c3 _ x => hs₃.extBut _ _ c1 (hs₂ _ _ c3 (hs₁.extBut _ _ c1 x))) ⟨oe, hs₃.extBut _ _ hez hoe, hce⟩
    | some x =>
      have hy : ys[k2]? = none := by rcases hend with h | h; rw [hx] at h; cases h; exact h
      refine wpAny_bind (nextOf_tuple_item (h1.extBut hs₁.extBut D.i1z) (hl1.extBut hs₁.extBut D.l1z) hx fun h₂ h1₂ hs₂ => wpAny_pure ?_)
      have hTO₂ : IsPair h₂ TO a b := hs₂.extBut _ _ D.TOi1 (hs₁.extBut _ _ D.TOz hTO)
      refine wpAny_bind (wpAny_seqItems hTO₂ rfl ?_)
      refine wpAny_bind (wpAny_updateSeq_pair hTO₂ fun h₃ hTO₃ hs₃ => ?_)
      refine wpAny_bind (wpAny_letGo (wpAny_pure ?_))
      refine wpAny_bind (wpAny_bind (wpAny_onRaise ?_))
      show wpAny _ _ (Builtin.SmallTypes.nextOf (.ref i2) >>= _) _ _ _
      refine wpAny_bind (nextOf_tuple_end hh (((h2.extBut hs₁.extBut D.i2z).extBut hs₂.extBut D.i12.symm).extBut hs₃.extBut D.TOi2.symm) (((hl2.extBut hs₁.extBut D.l2z).extBut hs₂.extBut D.l2i1).extBut hs₃.extBut D.l2TO) hy fun h₄ e hs₄ he => ?_)
      obtain ⟨oe, hoe, hce⟩ := he
      have hz₄ : ZG h₄ z TI TO .ellipsis f := hs₄ _ _ D.i2z.symm (hs₃.extBut _ _ D.TOz.symm (hs₂.extBut _ _ D.i1z.symm hz₁))
      have hez : e ≠ z := fun x => by subst x; rw [hz₄] at hoe; cases hoe; simp at hce
      refine wpAny_setField_rec hz₄ (by simp) fun h₅ _ hs₅ => hE h₅ e (fun c o c1 c2 c3 c4 x => hs₅.extBut _ _ c1 (hs₄ _ _ c4 (hs₃.extBut _ _ c2 (hs₂.extBut _ _ c3 (hs₁.extBut _ _ c1 x))))) ⟨oe, hs₅.extBut _ _ hez hoe, hce⟩
  · simp only [Bool.false_eq_true, if_false]
    refine wpAny_bind ?_
    rw [← Array.forIn_toList]
    simp only [List.forIn_cons, List.forIn_nil]
    refine wpAny_bind (wpAny_bind (wpAny_holding ?_))
    show wpAny _ _ (Builtin.SmallTypes.nextOf (.ref i1) >>= _) _ _ _
    cases hx : xs[k1]? with
    | none =>
      refine wpAny_bind (nextOf_tuple_end (s := { s with heap := h₁ }) hh (h1.extBut hs₁.extBut D.i1z) (hl1.extBut hs₁.extBut D.l1z) hx fun h₂ e hs₂ he => ?_)
      exact hE h₂ e (fun c o c1 _ c3 _ x => hs₂ _ _ c3 (hs₁.extBut _ _ c1 x)) he
    | some x =>
      have hy : ys[k2]? = none := by rcases hend with h | h; rw [hx] at h; cases h; exact h
      refine wpAny_bind (nextOf_tuple_item (s := { s with heap := h₁ }) (h1.extBut hs₁.extBut D.i1z) (hl1.extBut hs₁.extBut D.l1z) hx fun h₂ h1₂ hs₂ => wpAny_pure ?_)
      refine wpAny_pure ?_
      refine wpAny_bind (wpAny_bind (wpAny_holding ?_))
      show wpAny _ _ (Builtin.SmallTypes.nextOf (.ref i2) >>= _) _ _ _
      refine wpAny_bind (nextOf_tuple_end (s := { s with heap := h₂ }) hh ((h2.extBut hs₁.extBut D.i2z).extBut hs₂.extBut D.i12.symm) ((hl2.extBut hs₁.extBut D.l2z).extBut hs₂.extBut D.l2i1) hy fun h₃ e hs₃ he => ?_)
      exact hE h₃ e (fun c o c1 _ c3 c4 x => hs₃ _ _ c4 (hs₂.extBut _ _ c3 (hs₁.extBut _ _ c1 x))) he
theorem next_zip_end (hh : A.handled = none) (D : ZipApart z TI TO i1 i2 l1 l2) (hz : ZG s.heap z TI TO q f) (hq : Qz q) (hTI : IsPair s.heap TI (.ref i1) (.ref i2)) (hTO : IsPair s.heap TO a b) (h1 : s.heap.IsTupleIter i1 l1 k1) (h2 : s.heap.IsTupleIter i2 l2 k2) (hl1 : s.heap.IsTuple l1 xs) (hl2 : s.heap.IsTuple l2 ys)
    (hend : xs[k1]? = none ∨ ys[k2]? = none) {Q : Value → Shared → Prop} (hE : ∀ h' e, (∀ c o, c ≠ z → c ≠ TO → c ≠ i1 → c ≠ i2 → s.heap.get? c = some o → h'.get? c = some o) → (∃ o, h'.get? e = some o ∧ o.cls = .type "StopIteration") → E (.ref e) { s with heap := h' }) :
    wpAny (model prog w) A (Builtin.SmallTypes.nextOf (.ref z)) Q E s := by
  have hT : s.TypeIs (.ref z) "zip" := ⟨_, hz, rfl⟩
  unfold Builtin.SmallTypes.nextOf
  exact wpAny_bind (wpAny_callSpecial?_slot (name := Str.ofString "__next__") hT F.slot_zip_next (wpAny_call_entry F.slot_zip_next hT F.entry_zip_next (zip_end (A := A.in1) (show A.in1.handled = none from hh) D hz hq hTI hTO h1 h2 hl1 hl2 hend hE) (F.args_zip_next_1 _)))
end
end EZ

end
section
namespace EZ
open PySem PySem.Spec L2 PyProof.Rows RZ
section
variable {prog : Program} {w : World} {A : Around} {E : Value → Shared → Prop} {s : Shared}
theorem meets_enum_zip (z TI TO : Addr) :
    Meets (Builtin.«enumerate.__new__» ⟨[.type "enumerate", .ref z], []⟩) (fun _ R s => IsZip s.heap z TI TO .none ∧
      R (.ok (.ret (.ref s.heap.objs.size))) { s with heap := s.heap.push { cls := .type "enumerate", data := .fields #[.none, .bool false, .ref z, rawInt 0, .none, .none] } }) :=
  .of_wp fun prog w A R s h => by
    obtain ⟨hp, g, d, tk, os⟩ := s
    obtain ⟨hl, h⟩ := h
    have hsub := sub_enumerate
    have hL : IsZip (Shared.heap ⟨hp, g, d, tk, os⟩) z TI TO .none := hl
    wp_walk using wpAny_pyIter_zip hL
    refine wpAny_stack_any fun st => wpAny_pure ?_
    split
    · rename_i c _ _ _ _ _
      cases (c == Value.type "enumerate")
      · wp_walk using wpAny_pyIter_zip hL
        exact ⟨_, rfl, h⟩
      · wp_walk using wpAny_pyIter_zip hL
        exact ⟨_, rfl, h⟩
    · wp_walk using wpAny_pyIter_zip hL
      exact ⟨_, rfl, h⟩
theorem call_enum_zip {z TI TO : Addr} {Q : Value → Shared → Prop} (hz : IsZip s.heap z TI TO .none)
    (h : ∀ h', IsEnum h' s.heap.objs.size z 0 .none → h'.objs.size = s.heap.objs.size + 1 → (∀ b o, s.heap.get? b = some o → h'.get? b = some o) → Q (.ref s.heap.objs.size) { s with heap := h' }) :
    wpAny (model prog w) A (call (.type "enumerate") [.ref z]) Q E s := by
  refine callType_new F.called_enumerate (by decide) (F.typeCall_enumerate_1 _) (F.newCall_enumerate_1 _) (fun obj => F.args_object_init_2 obj _) F.entry_enumerate_new (meets_enum_zip z TI TO) ⟨hz, ?_⟩
  have he : IsEnum (s.heap.push { cls := .type "enumerate", data := .fields #[.none, .bool false, .ref z, rawInt 0, .none, .none] }) s.heap.objs.size z 0 .none := Heap.get?_push_size _ rfl
  exact ⟨⟨_, he, rfl⟩, h _ he (Heap.size_push ..) fun b o x => Heap.get?_push_of_some _ x⟩
variable {e z TI TO i1 i2 l1 l2 : Addr} {q : Value} {f : Bool} {k : Nat} {xs ys : Array Value} {x y a b old : Value}
/-- what stands while pairs of a zip are counted -/
structure EZSt (h : Heap) (e z TI TO i1 i2 l1 l2 : Addr) (k : Nat) : Prop where
  en : ∃ old, IsEnum h e z ((k : Nat) : Int) old
  cell : ∃ q f, ZG h z TI TO q f ∧ Qz q
  ti : IsPair h TI (.ref i1) (.ref i2)
  to : ∃ a b, IsPair h TO a b
  it1 : h.IsTupleIter i1 l1 k
  it2 : h.IsTupleIter i2 l2 k
structure EZApart (e z TI TO i1 i2 l1 l2 : Addr) : Prop where
  D : ZipApart z TI TO i1 i2 l1 l2
  ez : e ≠ z
  eTI : e ≠ TI
  eTO : e ≠ TO
  ei1 : e ≠ i1
  ei2 : e ≠ i2
theorem enum_zip_item (Z : EZApart e z TI TO i1 i2 l1 l2) (S : EZSt s.heap e z TI TO i1 i2 l1 l2 k) (hl1 : s.heap.IsTuple l1 xs) (hl2 : s.heap.IsTuple l2 ys) (hx : xs[k]? = some x) (hy : ys[k]? = some y) {Q : Value → Shared → Prop}
    (hQ : ∀ h', IsEnumOut h' e z (((k : Nat) : Int) + 1) (.ref s.heap.objs.size) (s.heap.objs.size + 1) → (∃ q f, ZG h' z TI TO q f ∧ Qz q) → IsPair h' TI (.ref i1) (.ref i2) → (∃ a b, IsPair h' TO a b) → h'.IsTupleIter i1 l1 (k + 1) → h'.IsTupleIter i2 l2 (k + 1) → IsPair h' s.heap.objs.size x y →
      IsPair h' (s.heap.objs.size + 1) (.int k s.toks) (.ref s.heap.objs.size) → h'.objs.size = s.heap.objs.size + 2 → (∀ c o, c ∉ [e, z, TO, i1, i2] → s.heap.get? c = some o → h'.get? c = some o) → Q (.ref (s.heap.objs.size + 1)) { s with heap := h', toks := s.toks + 1 }) :
    wpAny (model prog w) A (Builtin.«enumerate.__next__» ⟨[.ref e], []⟩) (fun fin s' => ∃ v, fin = .done (.ret v) ∧ Q v s') E s := by
  obtain ⟨⟨old, he⟩, ⟨q, f, hz, hq⟩, hTI, ⟨a, b, hTO⟩, h1, h2⟩ := S
  obtain ⟨hp, g, d, tk, os⟩ := s
  have hel : e < hp.objs.size := Heap.lt_size he
  show wpAny _ _ (field (.ref e) 2 >>= _) _ _ _
  refine wpAny_bind (wpAny_field he rfl (x := .ref z) rfl ?_)
  refine wpAny_bind (next_zip_item Z.D hz hq hTI hTO h1 h2 hl1 hl2 hx hy fun h₁ F => ?_)
  have he₁ : IsEnum h₁ e z k old := F.keep e _ Z.ez Z.eTO Z.ei1 Z.ei2 he
  have hTI₁ : IsPair h₁ TI (.ref i1) (.ref i2) := F.keep TI _ Z.D.TIz Z.D.TITO Z.D.TIi1 Z.D.TIi2 hTI
  have hz1 : h₁.objs.size = hp.objs.size + 1 := F.size
  show wpAny _ _ (field (.ref e) 3 >>= _) _ _ ⟨h₁, g, d, tk, os⟩
  refine wpAny_bind (wpAny_field he₁ rfl (x := rawInt k) rfl ?_)
  show wpAny _ _ (field (.ref e) 4 >>= _) _ _ ⟨h₁, g, d, tk, os⟩
  refine wpAny_bind (wpAny_field he₁ rfl (x := .none) rfl ?_)
  show wpAny _ _ (mkInt k >>= _) _ _ ⟨h₁, g, d, tk, os⟩
  refine wpAny_bind (wpAny_mkInt ?_)
  show wpAny _ _ (setField (.ref e) 3 (rawInt ((k : Int) + 1)) >>= _) _ _ ⟨h₁, g, d, tk + 1, os⟩
  refine wpAny_bind (wpAny_setField_rec he₁ (by simp) fun h₂ he₂ hs₂ => ?_)
  replace hs₂ : Heap.SameBut e h₁ h₂ := hs₂
  replace he₂ : IsEnum h₂ e z ((k : Int) + 1) old := he₂
  show wpAny _ _ (setField (.ref e) 4 .none >>= _) _ _ ⟨h₂, g, d, tk + 1, os⟩
  refine wpAny_bind (wpAny_setField_rec he₂ (by simp) fun h₃ he₃ hs₃ => ?_)
  replace hs₃ : Heap.SameBut e h₂ h₃ := hs₃
  replace he₃ : IsEnum h₃ e z ((k : Int) + 1) old := he₃
  have hsz : h₃.objs.size = hp.objs.size + 1 := by rw [hs₃.1, hs₂.1, hz1]
  show wpAny _ _ (newTuple [.int k tk, .ref hp.objs.size] >>= _) _ _ ⟨h₃, g, d, tk + 1, os⟩
  refine wpAny_bind (wpAny_newTuple ?_)
  have he₄ : IsEnum (h₃.push { cls := .type "tuple", data := .seq #[.int k tk, .ref hp.objs.size] }) e z ((k : Int) + 1) old := Heap.get?_push_of_some _ he₃
  have ht₄ : IsPair (h₃.push { cls := .type "tuple", data := .seq #[.int k tk, .ref hp.objs.size] }) (hp.objs.size + 1) (.int k tk) (.ref hp.objs.size) := by rw [← hsz]; exact Heap.get?_push_size _ rfl
  have hz₄ : (h₃.push { cls := .type "tuple", data := .seq #[.int k tk, .ref hp.objs.size] }).objs.size = hp.objs.size + 2 := by rw [Heap.size_push, hsz]
  have hk₄ : ∀ b o, b ≠ e → h₁.get? b = some o → (h₃.push { cls := .type "tuple", data := .seq #[.int k tk, .ref hp.objs.size] }).get? b = some o := fun b o hb q => Heap.get?_push_of_some _ (hs₃.extBut b o hb (hs₂.extBut b o hb q))
  generalize h₃.push { cls := .type "tuple", data := .seq #[.int k tk, .ref hp.objs.size] } = h₄ at he₄ ht₄ hz₄ hk₄
  rw [hsz]
  show wpAny _ _ (Builtin.SmallTypes.ownedTupleIsFree (.ref e) >>= _) _ _ ⟨h₄, g, d, tk + 1, os⟩
  refine wpAny_bind ?_
  unfold Builtin.SmallTypes.ownedTupleIsFree
  refine wpAny_bind (wpAny_field he₄ rfl (x := .none) rfl (wpAny_pure ?_))
  simp only [if_true]
  refine wpAny_bind (wpAny_rule ?_)
  refine wpAny_bind (wpAny_field he₄ rfl (x := old) rfl ?_)
  refine wpAny_bind (wpAny_setField_rec he₄ (by simp) fun h₅ he₅ hs₅ => ?_)
  replace hs₅ : Heap.SameBut e h₄ h₅ := hs₅
  replace he₅ : IsEnum h₅ e z ((k : Int) + 1) (.ref hp.objs.size) := he₅
  show wpAny _ _ (Builtin.SmallTypes.ownedTupleHandOut (.ref e) (.ref (hp.objs.size + 1)) >>= _) _ _ ⟨h₅, g, d, tk + 1, os⟩
  refine wpAny_bind ?_
  unfold Builtin.SmallTypes.ownedTupleHandOut
  refine wpAny_bind (wpAny_setField_rec he₅ (by simp) fun h₆ he₆ hs₆ => ?_)
  replace hs₆ : Heap.SameBut e h₅ h₆ := hs₆
  replace he₆ : IsEnumOut h₆ e z ((k : Int) + 1) (.ref hp.objs.size) (hp.objs.size + 1) := he₆
  refine wpAny_setField_rec he₆ (by simp) fun h₇ he₇ hs₇ => ?_
  replace hs₇ : Heap.SameBut e h₆ h₇ := hs₇
  replace he₇ : IsEnumOut h₇ e z ((k : Int) + 1) (.ref hp.objs.size) (hp.objs.size + 1) := he₇
  have up : ∀ b o, b ≠ e → h₄.get? b = some o → h₇.get? b = some o := fun b o hb q => hs₇.extBut b o hb (hs₆.extBut b o hb (hs₅.extBut b o hb q))
  have up1 : ∀ b o, b ≠ e → h₁.get? b = some o → h₇.get? b = some o := fun b o hb q => up b o hb (hk₄ b o hb q)
  obtain ⟨q', f', c1, c2⟩ := F.cell
  obtain ⟨a', b', c3⟩ := F.to
  refine wpAny_bind (wpAny_letGo (wpAny_pure ⟨_, rfl, hQ h₇ he₇ ⟨q', f', up1 _ _ Z.ez.symm c1, c2⟩ (up1 _ _ Z.eTI.symm hTI₁) ⟨a', b', up1 _ _ Z.eTO.symm c3⟩ (F.it1.at fun o q => up1 _ o Z.ei1.symm q) (F.it2.at fun o q => up1 _ o Z.ei2.symm q)
    (up1 _ _ (Nat.ne_of_gt hel) F.new) (up (hp.objs.size + 1) _ (Nat.ne_of_gt (Nat.lt_succ_of_lt hel)) ht₄) (by rw [hs₇.1, hs₆.1, hs₅.1, hz₄]) fun c o hc q => ?_⟩))
  simp only [List.mem_cons, List.not_mem_nil, or_false, not_or] at hc
  exact up1 c o hc.1 (F.keep c o hc.2.1 hc.2.2.1 hc.2.2.2.1 hc.2.2.2.2 q)
theorem pyNext_ez_item (Z : EZApart e z TI TO i1 i2 l1 l2) (S : EZSt s.heap e z TI TO i1 i2 l1 l2 k) (hl1 : s.heap.IsTuple l1 xs) (hl2 : s.heap.IsTuple l2 ys) (hx : xs[k]? = some x) (hy : ys[k]? = some y) {Q : Option Value → Shared → Prop}
    (hQ : ∀ h', IsEnumOut h' e z (((k : Nat) : Int) + 1) (.ref s.heap.objs.size) (s.heap.objs.size + 1) → (∃ q f, ZG h' z TI TO q f ∧ Qz q) → IsPair h' TI (.ref i1) (.ref i2) → (∃ a b, IsPair h' TO a b) → h'.IsTupleIter i1 l1 (k + 1) → h'.IsTupleIter i2 l2 (k + 1) → IsPair h' s.heap.objs.size x y →
      IsPair h' (s.heap.objs.size + 1) (.int k s.toks) (.ref s.heap.objs.size) → h'.objs.size = s.heap.objs.size + 2 → (∀ c o, c ∉ [e, z, TO, i1, i2] → s.heap.get? c = some o → h'.get? c = some o) → Q (some (.ref (s.heap.objs.size + 1))) { s with heap := h', toks := s.toks + 1 }) :
    wpAny (model prog w) A (pyNext (.ref e)) Q E s := by
  obtain ⟨old, he⟩ := S.en
  have hT : s.TypeIs (.ref e) "enumerate" := ⟨_, he, rfl⟩
  unfold pyNext
  exact wpAny_bind (wpAny_attempt (wpAny_callSpecial?_slot (name := Str.ofString "__next__") hT F.slot_enumerate_next
    (wpAny_call_entry F.slot_enumerate_next hT F.entry_enumerate_next (enum_zip_item Z S hl1 hl2 hx hy fun h' a1 a2 a3 a4 a5 a6 a7 a8 a9 a10 => wpAny_pure (hQ h' a1 a2 a3 a4 a5 a6 a7 a8 a9 a10)) (F.args_enumerate_next_1 _))))
theorem pyNext_ez_end (hh : A.handled = none) (Z : EZApart e z TI TO i1 i2 l1 l2) (S : EZSt s.heap e z TI TO i1 i2 l1 l2 k) (hl1 : s.heap.IsTuple l1 xs) (hl2 : s.heap.IsTuple l2 ys) (hend : xs[k]? = none ∨ ys[k]? = none) {Q : Option Value → Shared → Prop}
    (hQ : ∀ h', (∀ c o, c ∉ [e, z, TO, i1, i2] → s.heap.get? c = some o → h'.get? c = some o) → Q none { s with heap := h' }) : wpAny (model prog w) A (pyNext (.ref e)) Q E s := by
  obtain ⟨⟨old, he⟩, ⟨q, f, hz, hq⟩, hTI, ⟨a, b, hTO⟩, h1, h2⟩ := S
  have hT : s.TypeIs (.ref e) "enumerate" := ⟨_, he, rfl⟩
  unfold pyNext
  refine wpAny_bind (wpAny_attempt (wpAny_callSpecial?_slot (name := Str.ofString "__next__") hT F.slot_enumerate_next (wpAny_call_entry F.slot_enumerate_next hT F.entry_enumerate_next ?_ (F.args_enumerate_next_1 _))))
  show wpAny _ _ (field (.ref e) 2 >>= _) _ _ _
  refine wpAny_bind (wpAny_field he rfl (x := .ref z) rfl ?_)
  refine wpAny_bind (next_zip_end (show A.in1.handled = none from hh) Z.D hz hq hTI hTO h1 h2 hl1 hl2 hend fun h' x hk hx' => ?_)
  obtain ⟨o, ho, hc⟩ := hx'
  refine wpAny_bind (wpAny_isInstance (T := "StopIteration") (b := true) ⟨o, ho, hc⟩ isSubtype_stop ?_)
  refine wpAny_pure (hQ _ fun c o hc q => ?_)
  simp only [List.mem_cons, List.not_mem_nil, or_false, not_or] at hc
  exact hk c o hc.2.1 hc.2.2.1 hc.2.2.2.1 hc.2.2.2.2 q
end
end EZ

end
section
namespace EZ
open PySem PySem.Spec L2 PyProof.Rows RZ
/-- the tuples at a and b as they stand at each turn: the count and a new pair, in a new pair -/
def Itez (K : PySem.W.Frag) (a b : Addr) : It :=
  ⟨fun i H => ∃ (xs ys : List V) (x y : V), SqT K H a xs ∧ SqT K H b ys ∧ xs[i]? = some x ∧ ys[i]? = some y,
    fun i H v H' => ∃ T U x y, v = .ref U ∧ H T = none ∧ H U = none ∧ U ≠ T ∧ H' = upd (upd H T (.tup [x, y])) U (.tup [.int (i : Nat), .ref T]) ∧ (∀ xs, SqT K H a xs → xs[i]? = some x) ∧ ∀ ys, SqT K H b ys → ys[i]? = some y,
    fun i H => ∃ xs ys : List V, SqT K H a xs ∧ SqT K H b ys ∧ (xs.length ≤ i ∨ ys.length ≤ i)⟩
theorem turn_ez {P : Program} {w : World} {K : PySem.W.Frag} {elts : List Expr} {kk : Nat} {tpos : Pos} {a b e z TI TO i1 i2 : Addr} (Z : EZApart e z TI TO i1 i2 a b) : Turn P w K (.Tuple elts kk tpos) (Itez K a b) [e, z, TI, TO, i1, i2] e (fun i h => EZSt h e z TI TO i1 i2 a b i) where
  mem := by simp
  obj := fun i h st c hc => by
    obtain ⟨⟨old, he⟩, ⟨q, f, hz, hq⟩, hTI, ⟨x, y, hTO⟩, ⟨o1, e1, _, d1⟩, ⟨o2, e2, _, d2⟩⟩ := st
    have e' : c = e ∨ c = z ∨ c = TI ∨ c = TO ∨ c = i1 ∨ c = i2 := by simpa using hc
    rcases e' with g | g | g | g | g | g
    · rw [g]; exact ⟨_, he, fun v q => nomatch q⟩
    · rw [g]; exact ⟨_, hz, fun v q => nomatch q⟩
    · rw [g]; exact ⟨_, hTI, fun v q => nomatch q⟩
    · rw [g]; exact ⟨_, hTO, fun v q => nomatch q⟩
    · rw [g]; exact ⟨o1, e1, fun v q => by rw [d1] at q; cases q⟩
    · rw [g]; exact ⟨o2, e2, fun v q => by rw [d2] at q; cases q⟩
  keep := fun i h h' st k => by
    obtain ⟨⟨old, he⟩, ⟨q, f, hz, hq⟩, hTI, ⟨x, y, hTO⟩, h1, h2⟩ := st
    exact ⟨⟨old, k e (by simp) _ he⟩, ⟨q, f, k z (by simp) _ hz, hq⟩, k TI (by simp) _ hTI, ⟨x, y, k TO (by simp) _ hTO⟩, h1.at fun o q => k i1 (by simp) o q, h2.at fun o q => k i2 (by simp) o q⟩
  item := by
    intro X hP hw hK hc i pins s σ H E I hf st hg
    subst hP hw hK
    obtain ⟨xs, ys, x, y, hqx, hqy, hx, hy⟩ := hg
    obtain ⟨its, rv, p, _⟩ := I.tuple hqx
    obtain ⟨its2, rv2, p2, _⟩ := I.tuple hqy
    obtain ⟨u, hu, ru⟩ := rv.get hx
    obtain ⟨u2, hu2, ru2⟩ := rv2.get hy
    have hel : e < s.heap.objs.size := by obtain ⟨_, q⟩ := st.en; exact Heap.lt_size q
    have lt : ∀ c ∈ [e, z, TI, TO, i1, i2], c < s.heap.objs.size := fun c hc => by
      obtain ⟨⟨_, e0⟩, ⟨_, _, e1, _⟩, e2, ⟨_, _, e3⟩, ⟨_, e4, _⟩, ⟨_, e5, _⟩⟩ := st
      have e' : c = e ∨ c = z ∨ c = TI ∨ c = TO ∨ c = i1 ∨ c = i2 := by simpa using hc
      rcases e' with g | g | g | g | g | g <;> rw [g] <;> exact Heap.lt_size (by assumption)
    refine pyNext_ez_item Z st p p2 (x := u) (y := u2) (by simpa using hu) (by simpa using hu2) fun h' he' hz' hTI' hTO' h1' h2' hT hU hsz hk => ?_
    refine ⟨_, rfl, wpAny_letOwnedTupleGo_enum (s := { s with heap := h', toks := s.toks + 1 }) he' fun h'' he'' sb => ?_⟩
    have up : ∀ c o, c ≠ e → h'.get? c = some o → h''.get? c = some o := fun c o hc q => (sb.2 c hc).trans q
    have hT2 : IsPair h'' s.heap.objs.size u u2 := up _ _ (Nat.ne_of_gt hel) hT
    have hU2 : IsPair h'' (s.heap.objs.size + 1) (.int i s.toks) (.ref s.heap.objs.size) := up _ _ (Nat.ne_of_gt (Nat.lt_succ_of_lt hel)) hU
    -- the heap without the outer pair
    obtain ⟨G, g1, g2⟩ := restrict h'' fun b => decide (b ≠ s.heap.objs.size + 1)
    have gk : ∀ b, b ≠ s.heap.objs.size + 1 → G.get? b = h''.get? b := fun b hb => g1 b (decide_eq_true hb)
    have ge : G.get? (s.heap.objs.size + 1) = none := g2 _ (by simp)
    have hTG : IsPair G s.heap.objs.size u u2 := (gk _ (Nat.ne_of_lt (Nat.lt_succ_self _))).trans hT2
    have newT : ObjOk X.prog X.w (upd H s.heap.objs.size (.tup [x, y])) G s.heap.objs.size (.tup [x, y]) := ⟨by show 2 ≤ sizeLine; decide, [u, u2], .cons ru (.cons ru2 .nil), ⟨_, hTG, rfl, _, rfl⟩⟩
    have I1 : Inv X pins σ (upd H s.heap.objs.size (.tup [x, y])) { s with heap := G, toks := s.toks + 1 } :=
      I.turnedNew (ch := [e, z, TI, TO, i1, i2]) (fun c o hc q => by
        have hlt := Heap.lt_size q
        rw [gk c (Nat.ne_of_lt (Nat.lt_succ_of_lt hlt))]
        refine up c o (fun y => hc (by simp [y])) (hk c o (fun y => hc ?_) q)
        simp only [List.mem_cons, List.not_mem_nil, or_false] at y ⊢
        rcases y with y | y | y | y | y <;> simp [y]) hf (Nat.le_refl _) newT
    have hfr : H s.heap.objs.size = none := I.hok.fresh (Nat.le_refl _)
    have hfr2 : H (s.heap.objs.size + 1) = none := I.hok.fresh (Nat.le_succ _)
    have hfr3 : upd H s.heap.objs.size (.tup [x, y]) (s.heap.objs.size + 1) = none := by rw [upd_ne (Nat.succ_ne_self _)]; exact hfr2
    have newU : ObjOk X.prog X.w (upd (upd H s.heap.objs.size (.tup [x, y])) (s.heap.objs.size + 1) (.tup [.int (i : Nat), .ref s.heap.objs.size])) h'' (s.heap.objs.size + 1) (.tup [.int (i : Nat), .ref s.heap.objs.size]) :=
      ⟨by show 2 ≤ sizeLine; decide, [.int i s.toks, .ref s.heap.objs.size], .cons ⟨_, rfl⟩ (.cons rfl .nil), ⟨_, hU2, rfl, _, rfl⟩⟩
    have I2 : Inv X pins σ (upd (upd H s.heap.objs.size (.tup [x, y])) (s.heap.objs.size + 1) (.tup [.int (i : Nat), .ref s.heap.objs.size])) { s with heap := h'', toks := s.toks + 1 } :=
      I1.laidN (t' := s.toks + 1) (fun c o q => by
        have hc : c ≠ s.heap.objs.size + 1 := fun y => by
          have q' : G.get? c = some o := q
          rw [y, ge] at q'; cases q'
        exact (gk c hc).symm.trans q) ge hfr3 newU
    refine ⟨.ref (s.heap.objs.size + 1), _, I2, rfl, ⟨s.heap.objs.size, s.heap.objs.size + 1, x, y, rfl, hfr, hfr2, Nat.succ_ne_self _, rfl, fun l hl => by rw [I.tuple_inj hl hqx]; exact hx, fun l hl => by rw [I.tuple_inj hl hqy]; exact hy⟩, ?_, fun c hcm => ?_⟩
    · obtain ⟨q', f', c1, c2⟩ := hz'
      obtain ⟨a', b', c3⟩ := hTO'
      have ee : ((i + 1 : Nat) : Int) = (i : Int) + 1 := by omega
      exact ⟨⟨_, by rw [ee]; exact he''⟩, ⟨q', f', up _ _ Z.ez.symm c1, c2⟩, up _ _ Z.eTI.symm hTI', ⟨a', b', up _ _ Z.eTO.symm c3⟩, h1'.at fun o q => up _ o Z.ei1.symm q, h2'.at fun o q => up _ o Z.ei2.symm q⟩
    · have hlt := lt c hcm
      rw [upd_ne (Nat.ne_of_lt (Nat.lt_succ_of_lt hlt)), upd_ne (Nat.ne_of_lt hlt)]
      exact (hf c hcm).1
  done := by
    intro X hP hw hK hc i pins s σ H E I hf st hg
    subst hP hw hK
    obtain ⟨xs, ys, hqx, hqy, hend⟩ := hg
    obtain ⟨its, rv, p, _⟩ := I.tuple hqx
    obtain ⟨its2, rv2, p2, _⟩ := I.tuple hqy
    have l1 := rv.length
    have l2 := rv2.length
    have he : its.toArray[i]? = none ∨ its2.toArray[i]? = none := by
      rcases hend with q | q
      · exact .inl (by simp; omega)
      · exact .inr (by simp; omega)
    exact pyNext_ez_end (I.ok.hd hc) Z st p p2 he fun h' hk => ⟨rfl, I.turnedL (t' := s.toks) (ch := [e, z, TI, TO, i1, i2]) (fun c o hb q => hk c o (fun y => hb (by
      simp only [List.mem_cons, List.not_mem_nil, or_false] at y ⊢
      rcases y with y | y | y | y | y <;> simp [y])) q) hf⟩
  self := fun A i s Q E st h => let ⟨_, he⟩ := st.en; wpAny_pyIter_enum he h
def iEZ (K : PySem.W.Frag) (ta : TA) : TI := fun σ H R => ta σ H fun vs H1 => ∃ a b xs ys, vs = [.ref a, .ref b] ∧ SqT K H1 a xs ∧ SqT K H1 b ys ∧ R (Itez K a b) H1
theorem pi_ez {X : Cx} {e e2 : Expr} {ta : TA} {p p2 pos pos2 tpos : Pos} {elts : List Expr} {kk : Nat} (hg : Gl X "enumerate") (hm : X.mg "enumerate" = none) (hg2 : Gl X "zip") (hm2 : X.mg "zip" = none) (ha : PA X [e, e2] ta)
    (hs2 : starEach [e, e2] X.env = (false, eval e X.env) :: starEach [e2] X.env := by rfl) (hpl2 : (backTo pos2 (starEach [e2] X.env)).any (·.1) = false := by rfl)
    (hs : starEach [.Call (.Name "zip" p2) [e, e2] [] pos2] X.env = [(false, eval (.Call (.Name "zip" p2) [e, e2] [] pos2) X.env)] := by rfl) :
    PI X (.Tuple elts kk tpos) (.Call (.Name "enumerate" p) [.Call (.Name "zip" p2) [e, e2] [] pos2] [] pos) (iEZ X.K ta) := by
  refine ⟨fun pins s σ H R I h => ?_⟩
  refine Call_ (ld_blt I hg hm boot_enumerate (PyProof.Rows.callWith_type1 ?_ hs rfl))
  rw [hs]
  show wpAny _ _ (spliced ((false, eval (.Call (.Name "zip" p2) [e, e2] [] pos2) X.env) :: backTo pos [])) _ _ s
  refine Calls.spliced_cons ?_
  refine Call_ (ld_blt I hg2 hm2 PyProof.Rows.boot_zip (PyProof.Rows.callWith_type1 (thn (ha.run pos2 pins s σ H _ I h) fun us s1 ⟨vs, H1, I1, r1, a, b, xs, ys, ex, hqx, hqy, q⟩ => ?_) hs2 hpl2))
  subst ex
  cases r1 with
  | cons r rr =>
    cases rr with
    | cons r' rr =>
      cases rr
      cases r
      cases r'
      obtain ⟨its, rv, p1, _⟩ := I1.tuple hqx
      obtain ⟨its2, rv2, p2, _⟩ := I1.tuple hqy
      obtain ⟨o1, ho1, _⟩ := id p1
      obtain ⟨o2, ho2, _⟩ := id p2
      refine call_zipT (show s1.heap.IsTuple a its.toArray from p1) (show s1.heap.IsTuple b its2.toArray from p2) fun h' hz hTI hTO h1 h2 hsz hk => ?_
      refine Calls.spliced_nil ?_
      refine call_enum_zip (s := { s1 with heap := h' }) hz fun h'' he hsz2 hk2 => wpAny_pyIter_enum he ?_
      have I2 : Inv X pins σ H1 { s1 with heap := h'' } := I1.kept (t' := s1.toks) fun b o q => hk2 b o (hk b o q)
      have hz5 : ({ s1 with heap := h' } : Shared).heap.objs.size = s1.heap.objs.size + 5 := hsz
      have la := Heap.lt_size ho1
      have lb := Heap.lt_size ho2
      refine ⟨_, [({ s1 with heap := h' } : Shared).heap.objs.size, s1.heap.objs.size + 4, s1.heap.objs.size + 2, s1.heap.objs.size + 3, s1.heap.objs.size, s1.heap.objs.size + 1], _, _, H1, rfl, I2,
        turn_ez (a := a) (b := b) ⟨PySem.W.ktu_apart s1.heap.objs.size a b la lb, fun y => by have y' : s1.heap.objs.size + 5 = s1.heap.objs.size + 4 := hz5.symm.trans y; omega, fun y => by have y' : s1.heap.objs.size + 5 = s1.heap.objs.size + 2 := hz5.symm.trans y; omega, fun y => by have y' : s1.heap.objs.size + 5 = s1.heap.objs.size + 3 := hz5.symm.trans y; omega, fun y => by have y' : s1.heap.objs.size + 5 = s1.heap.objs.size := hz5.symm.trans y; omega, fun y => by have y' : s1.heap.objs.size + 5 = s1.heap.objs.size + 1 := hz5.symm.trans y; omega⟩, ⟨⟨_, he⟩, ⟨_, _, hk2 _ _ hz, .inl rfl⟩, hk2 _ _ hTI, ⟨_, _, hk2 _ _ hTO⟩, h1.at fun o q => hk2 _ o q, h2.at fun o q => hk2 _ o q⟩, fun c hcm => ?_, q⟩
      have hle : s1.heap.objs.size ≤ c := by
        simp only [List.mem_cons, List.not_mem_nil, or_false] at hcm
        rcases hcm with y | y | y | y | y | y <;> rw [y]
        · rw [hz5]; exact Nat.le_add_right _ _
        · exact Nat.le_add_right _ _
        · exact Nat.le_add_right _ _
        · exact Nat.le_add_right _ _
        · exact Nat.le_refl _
        · exact Nat.le_add_right _ _
      exact I1.fpOk hle (I1.hok.fresh hle)
end EZ

end
section
namespace DL
open PySem PySem.Spec L2 PyProof.Rows
def ezD : List D → Option (List D)
  | [.tup xs, .tup ys] => some (enumF 0 (zipF xs ys))
  | _ => none
@[simp] theorem ezD_t (xs ys : List D) : ezD [.tup xs, .tup ys] = some (enumF 0 (zipF xs ys)) := rfl
section
variable {K : PySem.W.Frag} {mg : Str → Option Value} {P : FP K mg} {M L : Addr → Prop} {H1 : Hp}
theorem itok_ez {q q2 : Addr} {vs ws : List V} {ds es : List D} (hM : ∀ q, M q → L q) (hL0 : ∀ q, L0 P q → L q) (ta : TupAt K L H1 q vs) (rs : Reps P.g L H1 ds vs) (ta2 : TupAt K L H1 q2 ws) (rs2 : Reps P.g L H1 es ws) : ItOk P M (EZ.Itez K q q2) (enumF 0 (zipF ds es)) H1 := by
  have hl := rs.length
  have hl2 := rs2.length
  have hlen : (enumF 0 (zipF ds es)).length = min ds.length es.length := by rw [enumF_len, zipF, List.length_zipWith]
  refine ⟨fun H => SqT K H q vs ∧ SqT K H q2 ws, fun i H v H' => ∃ T U x y, v = .ref U ∧ H T = none ∧ H U = none ∧ U ≠ T ∧ H' = upd (upd H T (.tup [x, y])) U (.tup [.int (i : Nat), .ref T]) ∧ vs[i]? = some x ∧ ws[i]? = some y, ?_, fun H2 k => ⟨(ta.mono (k.weak hM) (fun _ h => .inl h)).sq, (ta2.mono (k.weak hM) (fun _ h => .inl h)).sq⟩, fun i H2 x H3 L' hi k hl' ht y => ?_⟩
  · rw [hlen]
    refine ⟨fun i H hi g => ?_, fun H g => ⟨vs, ws, g.1, g.2, by omega⟩, fun i H v H' hi g y => ?_⟩
    · have h1 : i < vs.length := by omega
      have h2 : i < ws.length := by omega
      exact ⟨vs, ws, vs[i], ws[i], g.1, g.2, by simp [h1], by simp [h2]⟩
    · obtain ⟨T, U, x, z, a1, a2, a3, a4, a5, a6, a7⟩ := y
      exact ⟨T, U, x, z, a1, a2, a3, a4, a5, a6 vs g.1, a7 ws g.2⟩
  · rw [hlen] at hi
    obtain ⟨T, U, a, b, rfl, hT, hU, hUT, rfl, ha, hb⟩ := y
    obtain ⟨d, ed, hr⟩ := rep_at rs (show i < ds.length by omega) (k.weak hM) (fun q h => (hl' q h).imp (hL0 q) id)
    obtain ⟨d2, ed2, hr2⟩ := rep_at rs2 (show i < es.length by omega) (k.weak hM) (fun q h => (hl' q h).imp (hL0 q) id)
    have r1 : Rep P.g L' (upd H2 T (.tup [a, b])) (.tup [d, d2]) (.ref T) := Rep.tup_new ht hT (.cons (hr a ha) (.cons (hr2 b hb) .nil))
    have hU2 : upd H2 T (.tup [a, b]) U = none := by rw [upd_ne hUT]; exact hU
    have ht2 : ∀ q, L' q → upd H2 T (.tup [a, b]) q ≠ none := fun q h => by
      by_cases z : q = T
      · rw [z, upd_same]; exact fun y => nomatch y
      · rw [upd_ne z]; exact ht q h
    refine ⟨fun c o q => ?_, .tup [.int (0 + i), .tup [d, d2]], by rw [enumF_get, zip_get ed ed2]; rfl, ?_⟩
    · rw [upd_ne (ne_of_none (same_new hT c o q) hU2)]
      exact same_new hT c o q
    · refine Rep.tup_new ht2 hU2 (.cons ?_ (.cons r1 .nil))
      unfold Rep
      congr 1
      omega
end
section
variable {X : Cx} {W : WX} {own : List Nat} {a b : Expr} {pos p p2 pos2 tpos : Pos} {fs : DEnv → M (List D)} {elts : List Expr} {kk : Nat} {st : Bool}
theorem pdi_ez (hm : X.mg "enumerate" = none) (hm2 : X.mg "zip" = none) (ha : PDA X W own [a, b] fs) (hw : (∀ (K : PySem.W.Frag) (mg : Str → Option Value) (P : FP K mg) σ q, MM P own σ st q → L0 P q) := by first | exact fun _ _ _ _ _ h => MM.weak h | exact fun _ _ _ _ _ h => MM.toL0 h)
    (hg : Gl X "enumerate" := by rfl) (hg2 : Gl X "zip" := by rfl) (hs2 : starEach [a, b] X.env = (false, eval a X.env) :: starEach [b] X.env := by rfl) (hpl2 : (backTo pos2 (starEach [b] X.env)).any (·.1) = false := by rfl)
    (hs : starEach [.Call (.Name "zip" p2) [a, b] [] pos2] X.env = [(false, eval (.Call (.Name "zip" p2) [a, b] [] pos2) X.env)] := by rfl) :
    PDI X W own st (.Tuple elts kk tpos) (.Call (.Name "enumerate" p) [.Call (.Name "zip" p2) [a, b] [] pos2] [] pos) (iO ezD fs) := (EZ.pi_ez hg hm hg2 hm2 ha hs2 hpl2 hs).imp fun σ H R ⟨P, ε, p, r, q⟩ => by
  refine tDA.iq (k := fun d _ => liftO (ezD d)) r q fun x v H1 p1 k1 r1 rv q1 => ?_
  obtain ⟨ds, e, q2⟩ := Post.lift q1
  have hM := hw X.K X.mg P σ
  unfold ezD at e
  split at e
  · cases e
    obtain ⟨w, w', rfl, rw1, rw2⟩ := rv.two
    unfold Rep at rw1 rw2
    obtain ⟨y, vs, rfl, ta, rs⟩ := rw1
    obtain ⟨y2, ws, rfl, ta2, rs2⟩ := rw2
    exact ⟨y, y2, vs, ws, rfl, ta.sq, ta2.sq, q2 _ H1 (Kp.refl _ _) r1.pool (itok_ez hM (fun _ h => h) ta rs ta2 rs2)⟩
  · cases e
end
end DL

end
section
namespace DL
open PySem PySem.Spec L2
/-! ### what gives a new list -/
section
variable {K : PySem.W.Frag} {mg : Str → Option Value} {P : FP K mg} {own : List Nat} {σ : St} {H H1 H' : Hp} {ε : DEnv} {p p' : Pool} {W : WX} {Z : Ends}
theorem SRel.back {q : Addr} (r : SRel P own σ H1 ε p) (k : Kp (AA P) H H1) (h : H1 q = none) : H q = none := by
  cases e : H q with
  | none => rfl
  | some o =>
    by_cases ha : AA P q
    · exact (r.there q (.inr ha) h).elim
    · rw [k q o e ha] at h; cases h
theorem NK.shift {Q : VK} {d : D} (k : Kp (AA P) H H1) (r : SRel P own σ H1 ε p) (h : NK P H Q d p') : NK P H1 Q d p' := fun q H' k' po n rv => h q H' (k.trans k') po (r.back k n) rv
/-- a new list is leaned on by nothing that is owned -/
theorem Rep.newLL (r : SRel P own σ H ε p) (k : Kp (AA P) H H') (po : PoolOk P.g H' p') {q : Addr} (hq : H q = none) {ds : List D} (hf : D.frees ds = true) (rv : Rep P.g (L0 P) H' (.lst ds) (.ref q)) : Rep P.g (LL P own σ) H' (.lst ds) (.ref q) := by
  unfold Rep at rv ⊢
  obtain ⟨q', vs, e, t, rs⟩ := rv
  cases e
  exact ⟨q, vs, rfl, ⟨fun z => r.tr z hq, t.2⟩, Reps.freed (fun x h => (r.step k po).notTup h) ds vs hf rs⟩
end
def newL : D → Option D
  | .lst ds => if D.frees ds = true then some (.lst ds) else none
  | _ => none
def dNewL (f : DEnv → M D) (ε : DEnv) : M D := f ε >>= fun d => liftO (newL d)
def dFree (f : DEnv → M D) (ε : DEnv) : M D := f ε >>= fun d => if d.free = true then pure d else M.fail
theorem newL_some {d d' : D} (h : newL d = some d') : ∃ ds, d = .lst ds ∧ d' = .lst ds ∧ D.frees ds = true := by
  unfold newL at h
  split at h
  · split at h
    · rename_i ds hf
      cases h
      exact ⟨ds, rfl, rfl, hf⟩
    · cases h
  · cases h
def slN (lo hi : Option Int) : D → Option D
  | .lst ds => some (.lst (cut ds lo hi))
  | .rol ds => some (.lst (cut ds lo hi))
  | _ => none
def dSlN (f : DEnv → M D) (lo hi : DEnv → M (Option Int)) (ε : DEnv) : M D := f ε >>= fun d => lo ε >>= fun l => hi ε >>= fun h => liftO (slN l h d)
def revN : D → Option D
  | .lst ds => some (.lst ds.reverse)
  | .rol ds => some (.lst ds.reverse)
  | _ => none
def dStar (f : DEnv → M D) (fs : DEnv → M (List D)) (ε : DEnv) : M (List D) := f ε >>= fun d => liftO (seqO d) >>= fun xs => fs ε >>= fun ys => pure (xs ++ ys)
section
variable {X : Cx} {W : WX} {own : List Nat} {e a b c : Expr} {es : List Expr} {pos p p2 p3 : Pos} {f g h : DEnv → M D} {fs : DEnv → M (List D)}
theorem pdn_lst (ha : PDA X W own es fs) : PDN X W own (.List es pos) (dA lstO fs) := (pe_lst ha).imp fun σ H Q ⟨P, ε, p, rel, q⟩ => by
  refine tDA.seq (k := fun xs _ => liftO (lstO xs)) rel q fun xs vs H1 p1 k1 r1 rxs q1 => ?_
  obtain ⟨d, e, q2⟩ := Post.lift q1
  have hl : xs.length ≤ 10000 ∧ d = .lst xs := by
    unfold lstO at e
    split at e
    · rename_i h; cases e; exact ⟨h, rfl⟩
    · cases e
  obtain ⟨hl, rfl⟩ := hl
  have := line10
  have := rxs.length
  exact ⟨by omega, fun t ht => q2 t _ (k1.trans (Kp.new ht)) (r1.pool.kp (same_new ht)) (r1.back k1 ht) (Rep.lst_new r1.there ht rxs)⟩
theorem pdn_list (hm : X.mg "list" = none) (ha : PDA X W own (e :: es) fs) (hg : Gl X "list" := by rfl) (he : starEach (e :: es) X.env = (false, eval e X.env) :: starEach es X.env := by rfl) (hpl : (backTo pos (starEach es X.env)).any (·.1) = false := by rfl) :
    PDN X W own (.Call (.Name "list" p) (e :: es) [] pos) (dA listD fs) := (pe_callTy call_list_of hg hm (by decide +kernel) ha (by decide) (by decide) he hpl).imp fun σ H Q ⟨P, ε, p, rel, q⟩ => by
  refine tDA.seq (k := fun xs _ => liftO (listD xs)) rel q fun xs vs H1 p1 k1 r1 rxs q1 => ?_
  obtain ⟨d, e, q2⟩ := Post.lift q1
  have key : ∃ y ys ds, vs = [.ref y] ∧ (SqL X.K H1 y ys ∨ SqT X.K H1 y ys) ∧ d = .lst ds ∧ Reps P.g (L0 P) H1 ds ys := by
    unfold listD at e
    split at e
    · cases e
      obtain ⟨v, rfl, rv⟩ := rxs.one; unfold Rep at rv; obtain ⟨y, ws, rfl, t, rs⟩ := rv
      exact ⟨y, ws, _, rfl, by first | exact .inr t.sq | exact .inl t.sq, rfl, rs⟩
    · cases e
      obtain ⟨v, rfl, rv⟩ := rxs.one; unfold Rep at rv; obtain ⟨y, ws, rfl, t, rs⟩ := rv
      exact ⟨y, ws, _, rfl, by first | exact .inr t.sq | exact .inl t.sq, rfl, rs⟩
    · cases e
      obtain ⟨v, rfl, rv⟩ := rxs.one; unfold Rep at rv; obtain ⟨y, ws, rfl, t, rs⟩ := rv
      exact ⟨y, ws, _, rfl, by first | exact .inr t.sq | exact .inl t.sq, rfl, rs⟩
    · cases e
  obtain ⟨y, ys, ds, rfl, hs, rfl, rs⟩ := key
  exact ⟨y, ys, rfl, hs, fun t ht => q2 t _ (k1.trans (Kp.new ht)) (r1.pool.kp (same_new ht)) (r1.back k1 ht) (Rep.lst_new r1.there ht rs)⟩
theorem pdn_slice {lo hi : Option Expr} {fl fh : DEnv → M (Option Int)} (ha : PD X W own a f) (hl : PDO X W own lo fl) (hh : PDO X W own hi fh) : PDN X W own (.Subscript a (.Slice lo hi none p2) pos) (dSlN f fl fh) :=
  (pe_slice (SlR.or sl_list sl_tupA) ha hl hh).imp fun σ H Q ⟨P, ε, p, rel, q⟩ => by
  refine tD.seq (k := fun d ε => fl ε >>= fun l => fh ε >>= fun h => liftO (slN l h d)) rel q fun x vx H1 p1 k1 r1 rx q1 => ?_
  refine tDO.seq (k := fun l ε => fh ε >>= fun h => liftO (slN l h x)) r1 q1 fun l H2 p2 k2 r2 q2 => ?_
  refine tDO.seq (k := fun h _ => liftO (slN l h x)) r2 q2 fun h H3 p3 k3 r3 q3 => ?_
  obtain ⟨d, e, q4⟩ := Post.lift q3
  clear q q1 q2 q3
  have kk := (k1.trans k2).trans k3
  have rx3 : Rep P.g (L0 P) H3 x vx := Rep.mono ((k2.trans k3).weak fun q h => .inr h) (fun _ h => .inl h) x vx rx
  cases x <;> simp only [slN] at e <;> cases e
  all_goals
    rename_i ds
    unfold Rep at rx3
    obtain ⟨y, vs, rfl, t, rs⟩ := rx3
    have rc : Reps P.g (L0 P) H3 (cut ds l h) (cutV vs l h) := by
      rw [cut_len rs.length]
      exact (Reps.drop _ rs).take _
    exact .inl ⟨y, vs, rfl, t.sq, fun pp hp => q4 pp _ (kk.trans (Kp.new hp)) (r3.pool.kp (same_new hp)) (r3.back kk hp) (Rep.lst_new r3.there hp rc)⟩
theorem pdn_rev {k : Nat} {p1 : Pos} (ha : PD X W own e f) : PDN X W own (.Subscript e (.Slice none none (some (.UnaryOp .USub (.Constant (.int 1) k p1) p2)) p3) pos) (d1 revN f) := (pe_rev2 ha).imp fun σ H Q ⟨P, ε, p, rel, q⟩ => by
  refine tD.seq (k := fun x _ => liftO (revN x)) rel q fun x vx H1 p1 k1 r1 rx q1 => ?_
  obtain ⟨d, e, q2⟩ := Post.lift q1
  cases x <;> simp only [revN] at e <;> cases e <;> unfold Rep at rx
  all_goals
    obtain ⟨y, vs, rfl, t, rs⟩ := rx
    exact .inl ⟨y, vs, rfl, t.sq, fun pp hp => q2 pp _ (k1.trans (Kp.new hp)) (r1.pool.kp (same_new hp)) (r1.back k1 hp) (Rep.lst_new r1.there hp rs.reverse)⟩
/-- *e among the items -/
theorem pda_star (ha : PD X W own e f) (hr : PDA X W own es fs) (hs : starEach (.Starred e p :: es) X.env = (true, eval e X.env) :: starEach es X.env := by rfl) : PDA X W own (.Starred e p :: es) (dStar f fs) := (StX.pa_star ha hr hs).imp fun σ H Q ⟨P, ε, p, rel, q⟩ => by
  refine tD.seq (k := fun d ε => liftO (seqO d) >>= fun xs => fs ε >>= fun ys => pure (xs ++ ys)) rel q fun x vx H1 p1 k1 r1 rx q1 => ?_
  obtain ⟨ds, e, q2⟩ := Post.lift (Post.thn q1)
  clear q q1
  have key : ∃ y xs, vx = .ref y ∧ (SqT X.K H1 y xs ∨ SqL X.K H1 y xs) ∧ Reps P.g (L0 P) H1 ds xs := by
    cases x <;> simp only [seqO] at e <;> cases e <;> unfold Rep at rx
    all_goals obtain ⟨y, vs, rfl, t, rs⟩ := rx
    · exact ⟨y, vs, rfl, .inl t.sq, rs⟩
    · exact ⟨y, vs, rfl, .inr t.sq, rs⟩
    · exact ⟨y, vs, rfl, .inr t.sq, rs⟩
  obtain ⟨y, xs, rfl, hs, rs⟩ := key
  refine ⟨y, xs, rfl, hs, ?_⟩
  refine tDA.seq (k := fun ys _ => pure (ds ++ ys)) r1 q2 fun ys ws H2 p2 k2 r2 rys q3 => ?_
  exact q3 (xs ++ ws) H2 (k1.trans k2) r2.pool (Reps.append (Reps.mono (k2.weak fun q h => .inr h) (fun _ h => .inl h) ds xs rs) rys)
theorem pdn_lc {ts : List Nat} {tg iter : Expr} {it : DEnv → M (List D)} {t : Pat} {fc : DEnv → M Bool} {elt : Expr} {ifs : List Expr} {scope : Scope} (own2 : List (Str × Nat)) (hc : X.calm = true) (hN : X.N.Nodup) (hi : PDI X W own false tg iter it) (ok : BlkOk X.N X.env.scope scope own2)
    (hg : ∀ (s : Shared) (H : Hp) (C : Addr) (cl : List (Str × Addr)) (fp : List Addr), PDG (X.blk s H scope (compEnvC scope cl C X.env) fp) own ts tg t) (ht : ∀ (s : Shared) (H : Hp) (C : Addr) (cl : List (Str × Addr)) (fp : List Addr), PDTs (X.blk s H scope (compEnvC scope cl C X.env) fp) W0 own ifs fc)
    (he : ∀ (s : Shared) (H : Hp) (C : Addr) (cl : List (Str × Addr)) (fp : List Addr), PD (X.blk s H scope (compEnvC scope cl C X.env) fp) W0 own elt f) (hv : ∀ i, i ∈ own → i ∉ own2.map (·.2) := by decide) (hts : ∀ i, i ∈ ts → i ∈ own2.map (·.2) := by decide) (hs : ∀ x, foldedSetIterable iter X.env x = pure x := by intro _; rfl) :
    PDN X W own (.ListComp elt [⟨tg, iter, ifs, 0⟩] scope pos) (dLc it (own2.map (·.2)) t fc f) :=
  (pe_lc (tt := tDT X.K X.mg W0 own fc) (te := tD X.K X.mg W0 own f) (g := gD X.K X.mg own ts t) hc hN hi ok hg ht he hs).imp fun σ H Q q => lc_reading hv hts q
/-- a call of a def that hands back a new list -/
theorem spD_ofN {ps : List Str} {m : List D → M D} {P : FP X.K X.mg} {σ : St} {H1 : Hp} {ε : DEnv} {p1 : Pool} {ds : List D} {vs : List V} {Q : VK} (r1 : SRel P own σ H1 ε p1) (rds : Reps P.g (L0 P) H1 ds vs) (hl : ds.length = ps.length) (q1 : Post (m ds p1) (NK P H1 Q) (XKx P σ H1 W)) :
    spD X.K X.mg ps.length true m vs H1 Q (WE W σ) :=
  ⟨{ P with H0 := H1 }, ds, p1, by rw [rds.length, hl], rfl, r1.there, r1.apart, r1.pool, rds, q1.mono (fun d p' z v H' a b c nv => by
    obtain ⟨q, rfl, hq⟩ := nv rfl
    exact z q H' a b hq c) fun c d p' z => z⟩
theorem pdn_c {k k' n : Nat} {fa : Addr} {fd : FuncData} {ps : List Str} {m : List D → M D} {x : Str} (C : CalF X.prog X.w X.K X.mg X.base k x fa fd ps true m) (hr : Room k' X.A) (hgd : X.A.guards = some []) (tk : Takes X W) (ha : PDA X W own (e :: es) fs) (hk : k ≤ k' := by decide) (hn : ps.length = n := by rfl) (hg : Gl X x := by rfl) (hdb : (x == ("__debug__" : Str)) = false := by decide)
    (he : starEach (e :: es) X.env = (false, eval e X.env) :: starEach es X.env := by rfl) (hpl : (backTo pos (starEach es X.env)).any (·.1) = false := by rfl) : PDN X W own (.Call (.Name x p) (e :: es) [] pos) (dCall n m fs) := by
  subst hn
  refine ⟨fun pins s σ H Q I ⟨P, ε, p, rel, q⟩ => ?_⟩
  have rd : tDA X.K X.mg W own fs σ H (fun vs H1 => spD X.K X.mg ps.length true m vs H1 Q (WE W σ)) := by
    refine tDA.seq (k := fun ds _ => if ds.length = ps.length then m ds else M.fail) rel q fun ds vs H1 p1 k1 r1 rds q1 => ?_
    split at q1
    · rename_i hl
      exact spD_ofN r1 rds hl (q1.mono (fun _ _ z => z.shift k1 r1) fun _ _ _ z => z)
    · exact q1.elim
  refine wpAny_Call_Name_kw (ld_glob I hg C.mg ?_ hdb)
  refine PySem.W.callWith_K (h₀ := X.base) I.ok.mod.kin C.kp (thn (ha.run pos pins s σ H _ I rd) fun us s1 ⟨vs, H1, I1, rv, z⟩ => ⟨I1.kIn, ?_⟩) he hpl
  exact run_fnD C.fn (hr.mono hk) hgd C.bd tk I1 rv z
/-! ### what leans on no owned list -/
def LKx {K : PySem.W.Frag} {mg : Str → Option Value} (P : FP K mg) (own : List Nat) (σ : St) (H : Hp) (Q : VK) : D → Pool → Prop := fun d p' => ∀ v H', Kp (AA P) H H' → PoolOk P.g H' p' → Rep P.g (LL P own σ) H' d v → Q v H'
def tDL (K : PySem.W.Frag) (mg : Str → Option Value) (W : WX) (own : List Nat) (f : DEnv → M D) : TE := fun σ H Q => ∃ (P : FP K mg) (ε : DEnv) (p : Pool), SRel P own σ H ε p ∧ Post (f ε p) (LKx P own σ H Q) (XKx P σ H W)
abbrev PDL (X : Cx) (W : WX) (own : List Nat) (e : Expr) (f : DEnv → M D) : Prop := PE X e (tDL X.K X.mg W own f)
theorem tDL.seq {K : PySem.W.Frag} {mg : Str → Option Value} {α : Type} {f : DEnv → M D} {k : D → DEnv → M α} {σ : St} {H : Hp} {P : FP K mg} {ε : DEnv} {p : Pool} {R : α → Pool → Prop} {T : VK}
    (r : SRel P own σ H ε p) (h : Post ((f ε >>= fun x => k x ε) p) R (XKx P σ H W))
    (n : ∀ x v H1 p1, Kp (AA P) H H1 → SRel P own σ H1 ε p1 → Rep P.g (LL P own σ) H1 x v → Post (k x ε p1) R (XKx P σ H1 W) → T v H1) : tDL K mg W own f σ H T :=
  ⟨P, ε, p, r, (Post.thn h).mono (fun x p1 hp v H1 k1 po rv => n x v H1 p1 k1 (r.step k1 po) rv (hp.mono (fun _ _ z => z) fun _ _ _ z => z.shift k1)) fun _ _ _ z => z⟩
theorem dVar_get {ε : DEnv} {i : Nat} {d : D} (e : ε[i]?.bind id = some d) : ε[i]? = some (some d) := by
  cases z : ε[i]? with
  | none => rw [z] at e; cases e
  | some o => rw [z] at e; cases o with
    | none => cases e
    | some d' => cases e; rfl
theorem pdl_v {i : Nat} {x : Str} (hN : X.N[i]? = some x := by rfl) (hv : Vis X.env.scope x := by first | exact Or.inl rfl | exact Or.inr (Or.inl rfl) | exact Or.inr (Or.inr rfl)) (ho : i ∉ own := by decide) (hd : (x == ("__debug__" : Str)) = false := by decide) (hcd : (x == ("__classdict__" : Str)) = false := by decide) :
    PDL X W own (.Name x pos) (dVar i) := (pe_var hN hv hd hcd).imp fun σ H Q ⟨P, ε, p, r, q⟩ => by
  obtain ⟨d, e, q⟩ := Post.lift q
  obtain ⟨v, e1, rv⟩ := r.slots i d ho (dVar_get e)
  exact ⟨v, e1, q v H (Kp.refl _ _) r.pool rv⟩
theorem pdl_new (he : PDN X W own e f) : PDL X W own e (dNewL f) := L2.PE.imp he fun σ H Q ⟨P, ε, p, r, q⟩ => by
  refine ⟨P, ε, p, r, (Post.thn q).mono (fun d p' z q H' k po n rv => ?_) fun _ _ _ z => z⟩
  obtain ⟨d', e, z⟩ := Post.lift z
  obtain ⟨ds, rfl, rfl, hf⟩ := newL_some e
  exact z _ H' k po (Rep.newLL r k po n hf rv)
theorem pdl_free (he : PD X W own e f) : PDL X W own e (dFree f) := L2.PE.imp he fun σ H Q ⟨P, ε, p, r, q⟩ => by
  refine ⟨P, ε, p, r, (Post.thn q).mono (fun d p' z v H' k po rv => ?_) fun _ _ _ z => z⟩
  split at z
  · rename_i hf
    exact z v H' k po ((r.step k po).strong rv (.inr hf))
  · exact z.elim
abbrev tDLA (K : PySem.W.Frag) (mg : Str → Option Value) (W : WX) (own : List Nat) (f : DEnv → M (List D)) : TA := fun σ H Q => ∃ (P : FP K mg) (ε : DEnv) (p : Pool), SRel P own σ H ε p ∧ Post (f ε p) (fun ds p' => ∀ vs H', Kp (AA P) H H' → PoolOk P.g H' p' → Reps P.g (LL P own σ) H' ds vs → Q vs H') (XKx P σ H W)
abbrev PDLA (X : Cx) (W : WX) (own : List Nat) (e : List Expr) (f : DEnv → M (List D)) : Prop := PA X e (tDLA X.K X.mg W own f)
theorem tDLA.seq {K : PySem.W.Frag} {mg : Str → Option Value} {α : Type} {f : DEnv → M (List D)} {k : List D → DEnv → M α} {σ : St} {H : Hp} {P : FP K mg} {ε : DEnv} {p : Pool} {R : α → Pool → Prop} {T : List V → Hp → Prop}
    (r : SRel P own σ H ε p) (h : Post ((f ε >>= fun x => k x ε) p) R (XKx P σ H W))
    (n : ∀ x v H1 p1, Kp (AA P) H H1 → SRel P own σ H1 ε p1 → Reps P.g (LL P own σ) H1 x v → Post (k x ε p1) R (XKx P σ H1 W) → T v H1) : tDLA K mg W own f σ H T :=
  ⟨P, ε, p, r, (Post.thn h).mono (fun x p1 hp v H1 k1 po rv => n x v H1 p1 k1 (r.step k1 po) rv (hp.mono (fun _ _ z => z) fun _ _ _ z => z.shift k1)) fun _ _ _ z => z⟩
theorem pdla_nil : PDLA X W own [] dNil := pa_nil.imp fun σ H Q ⟨P, ε, p, rel, q⟩ => q [] H (Kp.refl _ _) rel.pool Reps.nil
theorem pdla_cons (ha : PDL X W own e f) (hr : PDLA X W own es fs) (hs : starEach (e :: es) X.env = (false, eval e X.env) :: starEach es X.env := by rfl) : PDLA X W own (e :: es) (dCons f fs) := (pa_cons ha hr hs).imp fun σ H Q ⟨P, ε, p, rel, q⟩ => by
  refine tDL.seq (k := fun x ε => fs ε >>= fun xs => pure (x :: xs)) rel q fun x vx H1 p1 k1 r1 rx q1 => ?_
  refine tDLA.seq (k := fun xs _ => pure (x :: xs)) r1 q1 fun xs vs H2 p2 k2 r2 rxs q2 => ?_
  exact q2 (vx :: vs) H2 (k1.trans k2) r2.pool (.cons (Rep.mono (k2.weak fun q h => h.LL) (fun _ h => .inl h) x vx rx) rxs)
end
/-! ### what is walked in a for where lists are owned -/
section
variable {K : PySem.W.Frag} {mg : Str → Option Value} {P : FP K mg} {M L : Addr → Prop} {H1 : Hp}
theorem itok_listL {q : Addr} {vs : List V} {ds : List D} (hM : ∀ q, M q → L q) (hL0 : ∀ q, L0 P q → L q) (ta : RolAt K L H1 q vs) (rs : Reps P.g L H1 ds vs) : ItOk P M (Itl K q) ds H1 := by
  refine ⟨_, _, by rw [← rs.length]; exact walk_list, fun H2 k => (ta.mono (k.weak hM) (fun _ h => .inl h)).sq, fun i H2 x H3 L' hi k hl _ y => ?_⟩
  obtain ⟨rfl, y⟩ := y
  refine ⟨Same.refl _, ?_⟩
  obtain ⟨d, ed, hr⟩ := rep_at rs hi (k.weak hM) (fun q h => (hl q h).imp (hL0 q) id)
  exact ⟨d, ed, hr x y⟩
theorem itok_tupL {q : Addr} {vs : List V} {ds : List D} (hM : ∀ q, M q → L q) (hL0 : ∀ q, L0 P q → L q) (ta : TupAt K L H1 q vs) (rs : Reps P.g L H1 ds vs) : ItOk P M (Itt K q) ds H1 := by
  refine ⟨_, _, by rw [← rs.length]; exact walk_tup, fun H2 k => (ta.mono (k.weak hM) (fun _ h => .inl h)).sq, fun i H2 x H3 L' hi k hl _ y => ?_⟩
  obtain ⟨rfl, y⟩ := y
  refine ⟨Same.refl _, ?_⟩
  obtain ⟨d, ed, hr⟩ := rep_at rs hi (k.weak hM) (fun q h => (hl q h).imp (hL0 q) id)
  exact ⟨d, ed, hr x y⟩
end
section
variable {X : Cx} {W : WX} {own : List Nat} {e a b c : Expr} {es : List Expr} {pos p p2 tpos : Pos} {f g : DEnv → M D} {fs : DEnv → M (List D)} {tg : Expr} {elts : List Expr} {kk : Nat}
theorem MM.tt {K : PySem.W.Frag} {mg : Str → Option Value} {P : FP K mg} {σ : St} {q : Addr} (h : MM P own σ true q) : LL P own σ q := h
theorem tDL.iq {K : PySem.W.Frag} {mg : Str → Option Value} {f : DEnv → M D} {k : D → DEnv → M (List D)} {σ : St} {H : Hp} {R : It → Hp → Prop} {T : VK} {P : FP K mg} {ε : DEnv} {p : Pool}
    (r : SRel P own σ H ε p) (h : Post ((f ε >>= fun x => k x ε) p) (fun ds p' => ∀ J H', Kp (AA P) H H' → PoolOk P.g H' p' → ItOk P (MM P own σ true) J ds H' → R J H') (XKx P σ H W))
    (n : ∀ x v H1 p1, Kp (AA P) H H1 → SRel P own σ H1 ε p1 → Rep P.g (LL P own σ) H1 x v → Post (k x ε p1) (fun ds p' => ∀ J H', Kp (AA P) H1 H' → PoolOk P.g H' p' → ItOk P (MM P own σ true) J ds H' → R J H') (XKx P σ H1 W) → T v H1) : tDL K mg W own f σ H T :=
  tDL.seq (k := k) r h fun x v H1 p1 k1 r1 rv q1 => n x v H1 p1 k1 r1 rv (q1.mono (fun ds p' z J H' k' => z J H' (k1.trans k')) fun _ _ _ z => z)
theorem tDLA.iq {K : PySem.W.Frag} {mg : Str → Option Value} {f : DEnv → M (List D)} {k : List D → DEnv → M (List D)} {σ : St} {H : Hp} {R : It → Hp → Prop} {T : List V → Hp → Prop} {P : FP K mg} {ε : DEnv} {p : Pool}
    (r : SRel P own σ H ε p) (h : Post ((f ε >>= fun x => k x ε) p) (fun ds p' => ∀ J H', Kp (AA P) H H' → PoolOk P.g H' p' → ItOk P (MM P own σ true) J ds H' → R J H') (XKx P σ H W))
    (n : ∀ x v H1 p1, Kp (AA P) H H1 → SRel P own σ H1 ε p1 → Reps P.g (LL P own σ) H1 x v → Post (k x ε p1) (fun ds p' => ∀ J H', Kp (AA P) H1 H' → PoolOk P.g H' p' → ItOk P (MM P own σ true) J ds H' → R J H') (XKx P σ H1 W) → T v H1) : tDLA K mg W own f σ H T :=
  tDLA.seq (k := k) r h fun x v H1 p1 k1 r1 rv q1 => n x v H1 p1 k1 r1 rv (q1.mono (fun ds p' z J H' k' => z J H' (k1.trans k')) fun _ _ _ z => z)
theorem pdi_seqL (ha : PDL X W own a f) : PDI X W own true tg a (iSeq f) := (pi_seqV ha).imp fun σ H R ⟨P, ε, p, r, q⟩ => by
  refine tDL.iq (k := fun d _ => liftO (seqO d)) r q fun x v H1 p1 k1 r1 rv q1 => ?_
  obtain ⟨ds, e, q1⟩ := Post.lift q1
  cases x <;> simp only [seqO] at e <;> cases e <;> unfold Rep at rv
  · obtain ⟨y, vs, rfl, ta, rs⟩ := rv
    exact ⟨y, rfl, .inr ⟨vs, ta.sq, q1 _ H1 (Kp.refl _ _) r1.pool (itok_tupL (fun _ h => h) (fun _ h => h.LL) ta rs)⟩⟩
  · obtain ⟨y, vs, rfl, ta, rs⟩ := rv
    exact ⟨y, rfl, .inl ⟨vs, ta.sq, q1 _ H1 (Kp.refl _ _) r1.pool (itok_listL (fun _ h => h) (fun _ h => h.LL) (.inl ⟨ta.1, .inl ta.2⟩) rs)⟩⟩
  · obtain ⟨y, vs, rfl, ta, rs⟩ := rv
    exact ⟨y, rfl, .inl ⟨vs, ta.sq, q1 _ H1 (Kp.refl _ _) r1.pool (itok_listL (fun _ h => h) (fun _ h => h.LL) ta rs)⟩⟩
theorem pdi_enumL (hm : X.mg "enumerate" = none) (ha : PDLA X W own [a] fs) 
    (hg : Gl X "enumerate" := by rfl) (hs : starEach [a] X.env = [(false, eval a X.env)] := by rfl) : PDI X W own true (.Tuple elts kk tpos) (.Call (.Name "enumerate" p) [a] [] pos) (iO enumD fs) := (pi_enum hg hm ha hs).imp fun σ H R ⟨P, ε, p, r, q⟩ => by
  refine tDLA.iq (k := fun d _ => liftO (enumD d)) r q fun x v H1 p1 k1 r1 rv q1 => ?_
  obtain ⟨ds, e, q2⟩ := Post.lift q1
  unfold enumD at e
  split at e
  · cases e
    obtain ⟨w, rfl, rw1⟩ := rv.one
    unfold Rep at rw1
    obtain ⟨y, vs, rfl, ta, rs⟩ := rw1
    exact ⟨y, vs, rfl, ta.sq, q2 _ H1 (Kp.refl _ _) r1.pool (itok_enum (L := LL P own σ) (fun _ h => h) (fun _ h => h.LL) (.inl ⟨ta.1, .inl ta.2⟩) rs)⟩
  · cases e
    obtain ⟨w, rfl, rw1⟩ := rv.one
    unfold Rep at rw1
    obtain ⟨y, vs, rfl, ta, rs⟩ := rw1
    exact ⟨y, vs, rfl, ta.sq, q2 _ H1 (Kp.refl _ _) r1.pool (itok_enum (L := LL P own σ) (fun _ h => h) (fun _ h => h.LL) ta rs)⟩
  · cases e
theorem pdi_zipL (hm : X.mg "zip" = none) (ha : PDLA X W own [a, b] fs)
    (hg : Gl X "zip" := by rfl) (hs : starEach [a, b] X.env = (false, eval a X.env) :: starEach [b] X.env := by rfl) (hpl : (backTo pos (starEach [b] X.env)).any (·.1) = false := by rfl) : PDI X W own true (.Tuple elts kk tpos) (.Call (.Name "zip" p) [a, b] [] pos) (iO zipD fs) := (RZ.pi_zipA hg hm ha hs hpl).imp fun σ H R ⟨P, ε, p, r, q⟩ => by
  refine tDLA.iq (k := fun d _ => liftO (zipD d)) r q fun x v H1 p1 k1 r1 rv q1 => ?_
  obtain ⟨ds, e, q2⟩ := Post.lift q1
  unfold zipD at e
  split at e
  · cases e
    obtain ⟨w, w', rfl, rw1, rw2⟩ := rv.two
    unfold Rep at rw1 rw2
    obtain ⟨y, vs, rfl, ta, rs⟩ := rw1
    obtain ⟨y2, ws, rfl, ta2, rs2⟩ := rw2
    exact ⟨y, y2, vs, ws, rfl, .inl ⟨ta.sq, ta2.sq, q2 _ H1 (Kp.refl _ _) r1.pool (itok_zipL (L := LL P own σ) (fun _ h => h) (fun _ h => h.LL) (.inl ⟨ta.1, .inl ta.2⟩) rs (.inl ⟨ta2.1, .inl ta2.2⟩) rs2)⟩⟩
  · cases e
    obtain ⟨w, w', rfl, rw1, rw2⟩ := rv.two
    unfold Rep at rw1 rw2
    obtain ⟨y, vs, rfl, ta, rs⟩ := rw1
    obtain ⟨y2, ws, rfl, ta2, rs2⟩ := rw2
    exact ⟨y, y2, vs, ws, rfl, .inr ⟨ta.sq, ta2.sq, q2 _ H1 (Kp.refl _ _) r1.pool (itok_zipT (L := LL P own σ) (fun _ h => h) (fun _ h => h.LL) ta rs ta2 rs2)⟩⟩
  · cases e
end
end DL

end
section
namespace DL
open PySem PySem.Spec L2
/-! ### stores where lists are owned -/
section
variable {K : PySem.W.Frag} {mg : Str → Option Value} {P : FP K mg} {own : List Nat} {σ : St} {H H1 H' : Hp} {ε : DEnv} {p p' : Pool} {W : WX} {Z : Ends}
/-- what gives a new list, then the rest of the statement (FK as at its start) -/
theorem tDN.sxq {f : DEnv → M D} {k : D → DEnv → M Fl} {T : VK} (r : SRel P own σ H ε p) (h : Post (sx ε (f ε) (fun x => k x ε) p) (FK P own W Z σ H) NoX)
    (n : ∀ x q H1 p1, Kp (AA P) H H1 → SRel P own σ H1 ε p1 → H q = none → Rep P.g (L0 P) H1 x (.ref q) → Post (k x ε p1) (FK P own W Z σ H) NoX → T (.ref q) H1) : tDN K mg W own f σ H T :=
  ⟨P, ε, p, r, (sx_post h).mono (fun x p1 hp q H1 k1 po hq rv => n x q H1 p1 k1 (r.step k1 po) hq rv hp) fun c d p1 z => FK.xc r z⟩
theorem tDL.sxq {f : DEnv → M D} {k : D → DEnv → M Fl} {T : VK} (r : SRel P own σ H ε p) (h : Post (sx ε (f ε) (fun x => k x ε) p) (FK P own W Z σ H) NoX)
    (n : ∀ x v H1 p1, Kp (AA P) H H1 → SRel P own σ H1 ε p1 → Rep P.g (LL P own σ) H1 x v → Post (k x ε p1) (FK P own W Z σ H1) NoX → T v H1) : tDL K mg W own f σ H T :=
  ⟨P, ε, p, r, (sx_post h).mono (fun x p1 hp v H1 k1 po rv => n x v H1 p1 k1 (r.step k1 po) rv (FK.goP (Grow.ex k1) hp)) fun c d p1 z => FK.xc r z⟩
/-- a new list into an owned slot -/
theorem SRel.ownNew (r : SRel P own σ H ε p) (r1 : SRel P own σ H1 ε p') {i : Nat} {ds : List D} {q : Addr} (hi : i ∈ own) (k : Kp (AA P) H H1) (hq : H q = none) (hf : D.frees ds = true) (rv : Rep P.g (L0 P) H1 (.lst ds) (.ref q)) :
    SRel P own (σ.set i (some (.ref q))) H1 (ε.set i (some (.lst ds))) p' ∧ Grow P own σ H (σ.set i (some (.ref q))) H1 := by
  unfold Rep at rv
  obtain ⟨q', vs, e, t, rs⟩ := rv
  cases e
  refine ⟨r.setO r1 hi hq (.inl ⟨vs, t.2⟩) k (fun L hL => ⟨vs, t.2, Reps.freed (fun x h => ?_) ds vs hf rs⟩) (fun z => r.there q (.inl z) hq), Grow.setO hq k⟩
  rcases hL x h with h | h
  · exact r1.notTup h
  · subst h
    exact .inr fun ws z => by rcases z with z | ⟨o, z⟩ <;> rw [t.2] at z <;> cases z
end
def ownAt (i : Nat) (ε : DEnv) : Option (List D) := match ε[i]? with
  | some (some (.lst ds)) => some ds
  | _ => none
theorem ownAt_some {i : Nat} {ε : DEnv} {ds : List D} (h : ownAt i ε = some ds) : ε[i]? = some (some (.lst ds)) := by
  unfold ownAt at h
  split at h
  · rename_i e
    cases h
    exact e
  · cases h
section
variable {X : Cx} {W : WX} {own : List Nat} {e a b c : Expr} {es : List Expr} {pos p2 p3 : Pos} {f g h : DEnv → M D} {fs : DEnv → M (List D)} {fb : DEnv → M Bool}
theorem setO_eq {i : Nat} {f : DEnv → M D} {ε : DEnv} : sSet false i (dNewL f) ε = sx ε (f ε) (fun d => liftO (newL d) >>= fun d => pure (Fl.nx (ε.set i (some d)))) := by
  funext p
  rw [sSet_ap, sx_ap']
  show ((f ε >>= fun d => liftO (newL d)) p).sx ε _ = _
  rw [bind_thn]
  cases f ε p with
  | bad => rfl
  | ex c d p' => rfl
  | ok d p' =>
    rw [ok_thn, ok_sx]
    cases h : newL d with
    | none => rfl
    | some d' => simp; rfl
/-- x = e, e leaning on no owned list -/
theorem pds_setL {i : Nat} {x : Str} (hN : X.N.Nodup) (hi : X.N[i]? = some x) (hx : Loc X.env.scope x) (he : PDL X W own e f) (ho : i ∉ own := by decide) (hs : swapsWith e (some (.Name x p2)) pos.line X.env = pure false := by rfl)
    (hf : X.fn x = true ∨ X.env.scope.names.lookup x = some .local := by first | exact .inl rfl | exact .inr rfl | assumption) : PDS X W own (.Assign [.Name x p2] e pos) (sSet false i f) := (ps_set hN hi hx he hs hf).imp fun Z σ H ⟨P, ε, p, r, q⟩ => by
  refine tDL.sxq (k := fun d ε => if (!false || d.free) = true then pure (Fl.nx (ε.set i (some d))) else M.fail) r q fun x v H1 p1 k1 r1 rx q1 => ?_
  have q2 : Post ((pure (Fl.nx (ε.set i (some x))) : M Fl) p1) (FK P own W Z σ H1) NoX := by
    have e : (if (!false || x.free) = true then (pure (Fl.nx (ε.set i (some x))) : M Fl) else M.fail) = pure (Fl.nx (ε.set i (some x))) := if_pos (by simp)
    rw [← e]
    exact q1
  exact q2 _ H1 (r1.set ho rx) (Grow.set ho)
/-- x = e, x owned, e a new list -/
theorem pds_setO {i : Nat} {x : Str} (hN : X.N.Nodup) (hi : X.N[i]? = some x) (hx : Loc X.env.scope x) (he : PDN X W own e f) (ho : i ∈ own := by decide) (hs : swapsWith e (some (.Name x p2)) pos.line X.env = pure false := by rfl)
    (hf : X.fn x = true ∨ X.env.scope.names.lookup x = some .local := by first | exact .inl rfl | exact .inr rfl | assumption) : PDS X W own (.Assign [.Name x p2] e pos) (sSet false i (dNewL f)) := (ps_set hN hi hx he hs hf).imp fun Z σ H ⟨P, ε, p, r, q⟩ => by
  rw [setO_eq] at q
  have q0 := q
  refine tDN.sxq (k := fun d ε => liftO (newL d) >>= fun d => pure (Fl.nx (ε.set i (some d)))) r q0 fun x v H1 p1 k1 r1 hq rx q1 => ?_
  obtain ⟨d', e, q2⟩ := Post.lift (Post.thn q1)
  obtain ⟨ds, rfl, rfl, hf⟩ := newL_some e
  obtain ⟨rr, gg⟩ := r.ownNew r1 ho k1 hq hf rx
  exact q2 _ H1 rr gg
theorem pds_setOLc {ts : List Nat} {tg iter : Expr} {it : DEnv → M (List D)} {t : Pat} {fc : DEnv → M Bool} {i : Nat} {y : Str} {py spos : Pos} {elt : Expr} {ifs : List Expr} {scope : Scope} (own2 : List (Str × Nat)) (hc : X.calm = true) (hN : X.N.Nodup) (hy : X.N[i]? = some y) (hyl : X.env.scope.names.lookup y = some .local)
    (hsw : swapsWith (.ListComp elt [⟨tg, iter, ifs, 0⟩] scope pos) (some (.Name y py)) spos.line X.env = pure true) (hi : PDI X W own false tg iter it) (ok : BlkOk X.N X.env.scope scope own2)
    (hg : ∀ (s : Shared) (H : Hp) (C : Addr) (cl : List (Str × Addr)) (fp : List Addr), PDG (X.blk s H scope (compEnvC scope cl C X.env) fp) own ts tg t) (ht : ∀ (s : Shared) (H : Hp) (C : Addr) (cl : List (Str × Addr)) (fp : List Addr), PDTs (X.blk s H scope (compEnvC scope cl C X.env) fp) W0 own ifs fc)
    (he : ∀ (s : Shared) (H : Hp) (C : Addr) (cl : List (Str × Addr)) (fp : List Addr), PD (X.blk s H scope (compEnvC scope cl C X.env) fp) W0 own elt f) (ho : i ∈ own := by decide) (hv : ∀ i, i ∈ own → i ∉ own2.map (·.2) := by decide) (hts : ∀ i, i ∈ ts → i ∈ own2.map (·.2) := by decide) (hs : ∀ x, foldedSetIterable iter X.env x = pure x := by intro _; rfl) :
    PDS X W own (.Assign [.Name y py] (.ListComp elt [⟨tg, iter, ifs, 0⟩] scope pos) spos) (sSet false i (dNewL (dLc it (own2.map (·.2)) t fc f))) :=
  (ps_setLc (tt := tDT X.K X.mg W0 own fc) (te := tD X.K X.mg W0 own f) (g := gD X.K X.mg own ts t) hc hN hy hyl hsw hi ok hg ht he hs).imp fun Z σ H ⟨P, ε, p, r, q⟩ => by
  generalize hF : dLc it (own2.map (·.2)) t fc f = F at q
  rw [setO_eq] at q
  have q0 := q
  subst hF
  refine lc_reading hv hts (tDN.sxq (k := fun d ε => liftO (newL d) >>= fun d => pure (Fl.nx (ε.set i (some d)))) r q0 fun x v H1 p1 k1 r1 hq rx q1 => ?_)
  obtain ⟨d', e, q2⟩ := Post.lift (Post.thn q1)
  obtain ⟨ds, rfl, rfl, hf⟩ := newL_some e
  obtain ⟨rr, gg⟩ := r.ownNew r1 ho k1 hq hf rx
  exact q2 _ H1 rr gg
theorem pds_setLLc {ts : List Nat} {tg iter : Expr} {it : DEnv → M (List D)} {t : Pat} {fc : DEnv → M Bool} {i : Nat} {y : Str} {py spos : Pos} {elt : Expr} {ifs : List Expr} {scope : Scope} (own2 : List (Str × Nat)) (hc : X.calm = true) (hN : X.N.Nodup) (hy : X.N[i]? = some y) (hyl : X.env.scope.names.lookup y = some .local)
    (hsw : swapsWith (.ListComp elt [⟨tg, iter, ifs, 0⟩] scope pos) (some (.Name y py)) spos.line X.env = pure true) (hi : PDI X W own false tg iter it) (ok : BlkOk X.N X.env.scope scope own2)
    (hg : ∀ (s : Shared) (H : Hp) (C : Addr) (cl : List (Str × Addr)) (fp : List Addr), PDG (X.blk s H scope (compEnvC scope cl C X.env) fp) own ts tg t) (ht : ∀ (s : Shared) (H : Hp) (C : Addr) (cl : List (Str × Addr)) (fp : List Addr), PDTs (X.blk s H scope (compEnvC scope cl C X.env) fp) W0 own ifs fc)
    (he : ∀ (s : Shared) (H : Hp) (C : Addr) (cl : List (Str × Addr)) (fp : List Addr), PD (X.blk s H scope (compEnvC scope cl C X.env) fp) W0 own elt f) (ho : i ∉ own := by decide) (hv : ∀ i, i ∈ own → i ∉ own2.map (·.2) := by decide) (hts : ∀ i, i ∈ ts → i ∈ own2.map (·.2) := by decide) (hs : ∀ x, foldedSetIterable iter X.env x = pure x := by intro _; rfl) :
    PDS X W own (.Assign [.Name y py] (.ListComp elt [⟨tg, iter, ifs, 0⟩] scope pos) spos) (sSet false i (dNewL (dLc it (own2.map (·.2)) t fc f))) :=
  (ps_setLc (tt := tDT X.K X.mg W0 own fc) (te := tD X.K X.mg W0 own f) (g := gD X.K X.mg own ts t) hc hN hy hyl hsw hi ok hg ht he hs).imp fun Z σ H ⟨P, ε, p, r, q⟩ => by
  generalize hF : dLc it (own2.map (·.2)) t fc f = F at q
  rw [setO_eq] at q
  have q0 := q
  subst hF
  refine lc_reading hv hts (tDN.sxq (k := fun d ε => liftO (newL d) >>= fun d => pure (Fl.nx (ε.set i (some d)))) r q0 fun x v H1 p1 k1 r1 hq rx q1 => ?_)
  obtain ⟨d', e, q2⟩ := Post.lift (Post.thn q1)
  obtain ⟨ds, rfl, rfl, hf⟩ := newL_some e
  exact q2 _ H1 (r1.set ho (Rep.newLL r k1 r1.pool hq hf rx)) ((Grow.ex k1).trans (Grow.set ho))
/-- a, b = e1, e2: the first an owned name and a new list -/
def sParO (i j : Nat) (f g : DEnv → M D) (ε : DEnv) : M Fl := sx ε (f ε) fun d => liftO (newL d) >>= fun d => sx ε (g ε) fun d' => if d'.free = true then pure (.nx ((ε.set i (some d)).set j (some d'))) else M.fail
theorem pds_parO {i j : Nat} {x y : Str} {px py pt : Pos} {kt k2 pt2} (hc : X.calm = true) (hN : X.N.Nodup) (hi : X.N[i]? = some x) (hj : X.N[j]? = some y) (hij : i ≠ j)
    (hx : X.env.scope.names.lookup x = some .local) (hy : X.env.scope.names.lookup y = some .local) (ha : PDN X W own a f) (hb : PD X W own b g)
    (hw : swappedStores [.Tuple [.Name x px, .Name y py] kt pt] (.Tuple [a, b] k2 pt2) X.env = pure (some [x, y])) (ho : i ∈ own := by decide) (ho2 : j ∉ own := by decide)
    (hs : swapsWithSole [.Tuple [.Name x px, .Name y py] kt pt] (.Tuple [a, b] k2 pt2) pos.line X.env = pure false := by rfl)
    (hs1 : starEach [a, b] X.env = (false, eval a X.env) :: starEach [b] X.env := by rfl) (hs2 : starEach [b] X.env = (false, eval b X.env) :: starEach [] X.env := by rfl) :
    PDS X W own (.Assign [.Tuple [.Name x px, .Name y py] kt pt] (.Tuple [a, b] k2 pt2) pos) (sParO i j f g) := (ps_par hc hN hi hj hij hx hy (pa_cons ha (pa_cons hb pa_nil hs2) hs1) hw hs).imp fun Z σ H ⟨P, ε, p, r, q⟩ => by
  refine tDN.sxq (k := fun d ε => liftO (newL d) >>= fun d => sx ε (g ε) fun d' => if d'.free = true then pure (Fl.nx ((ε.set i (some d)).set j (some d'))) else M.fail) r q fun x v H1 p1 k1 r1 hq rx q1 => ?_
  obtain ⟨d', e, q2⟩ := Post.lift (Post.thn q1)
  obtain ⟨ds, rfl, rfl, hf⟩ := newL_some e
  clear q q1
  have q2' := sx_post (k := fun d' => if d'.free = true then pure (Fl.nx ((ε.set i (some (D.lst ds))).set j (some d'))) else M.fail) q2
  refine ⟨P, ε, p1, r1, q2'.mono (fun d2 p2 q3 w H2 k2 po2 rw2 => ?_) fun c d p2 z cv dx H' k po x => z σ cv dx H' (r1.step k po) (Grow.ex (k1.trans k)) x⟩
  split at q3
  · rename_i hf2
    have r2 := r1.step k2 po2
    have rx2 : Rep P.g (L0 P) H2 (.lst ds) (.ref v) := Rep.mono (k2.weak fun q h => .inr h) (fun _ h => .inl h) _ _ rx
    obtain ⟨rr, gg⟩ := r.ownNew r2 ho (k1.trans k2) hq hf rx2
    exact ⟨.ref v, w, rfl, q3 _ H2 (rr.set ho2 (rr.strong rw2 (.inr hf2))) (gg.trans (Grow.set ho2))⟩
  · exact q3.elim
/-- a, b = e1, e2: the second an owned name and a new list -/
def sParO2 (i j : Nat) (f g : DEnv → M D) (ε : DEnv) : M Fl := sx ε (f ε) fun d => sx ε (g ε) fun d' => liftO (newL d') >>= fun d' => if d.free = true then pure (.nx ((ε.set i (some d)).set j (some d'))) else M.fail
theorem pds_parO2 {i j : Nat} {x y : Str} {px py pt : Pos} {kt k2 pt2} (hc : X.calm = true) (hN : X.N.Nodup) (hi : X.N[i]? = some x) (hj : X.N[j]? = some y) (hij : i ≠ j)
    (hx : X.env.scope.names.lookup x = some .local) (hy : X.env.scope.names.lookup y = some .local) (ha : PD X W own a f) (hb : PDN X W own b g)
    (hw : swappedStores [.Tuple [.Name x px, .Name y py] kt pt] (.Tuple [a, b] k2 pt2) X.env = pure (some [x, y])) (ho : i ∉ own := by decide) (ho2 : j ∈ own := by decide)
    (hs : swapsWithSole [.Tuple [.Name x px, .Name y py] kt pt] (.Tuple [a, b] k2 pt2) pos.line X.env = pure false := by rfl)
    (hs1 : starEach [a, b] X.env = (false, eval a X.env) :: starEach [b] X.env := by rfl) (hs2 : starEach [b] X.env = (false, eval b X.env) :: starEach [] X.env := by rfl) :
    PDS X W own (.Assign [.Tuple [.Name x px, .Name y py] kt pt] (.Tuple [a, b] k2 pt2) pos) (sParO2 i j f g) := (ps_par hc hN hi hj hij hx hy (pa_cons ha (pa_cons hb pa_nil hs2) hs1) hw hs).imp fun Z σ H ⟨P, ε, p, r, q⟩ => by
  refine tD.sxq (k := fun d ε => sx ε (g ε) fun d' => liftO (newL d') >>= fun d' => if d.free = true then pure (Fl.nx ((ε.set i (some d)).set j (some d'))) else M.fail) r q fun x v H1 p1 k1 r1 rx q1 => ?_
  refine tDN.sxq (k := fun d' ε => liftO (newL d') >>= fun d' => if x.free = true then pure (Fl.nx ((ε.set i (some x)).set j (some d'))) else M.fail) r1 q1 fun y w H2 p2 k2 r2 hq ry q2 => ?_
  obtain ⟨d', e, q3⟩ := Post.lift (Post.thn q2)
  obtain ⟨ds, rfl, rfl, hf⟩ := newL_some e
  split at q3
  · rename_i hf2
    have rx1 := r1.strong rx (.inr hf2)
    have ra := r1.set ho rx1
    have rb := ra.step k2 r2.pool
    have hqa : H1 w = none := hq
    obtain ⟨rr, gg⟩ := ra.ownNew rb ho2 k2 hqa hf ry
    exact ⟨v, .ref w, rfl, q3 _ H2 rr ((Grow.set ho).trans gg)⟩
  · exact q3.elim
/-! ### methods that change an owned list -/
def MuR (K : PySem.W.Frag) (mg : Str → Option Value) (r : V → List V → Hp → VK → Prop) (op : List D → List D → Option (List D)) : Prop := ∀ (a : Option Addr) (L0 L : Addr → Prop) (H : Hp) (l : Addr) (ds xs ds' : List D) (vs vx : List V) (Q : VK),
  (∀ zs ws, D.frees zs = true → Reps ⟨K, mg, a⟩ L0 H zs ws → Reps ⟨K, mg, a⟩ L H zs ws) → H l = some (.lst vs) → Reps ⟨K, mg, a⟩ L H ds vs → Reps ⟨K, mg, a⟩ L0 H xs vx → op ds xs = some ds' →
  (∀ vs', Reps ⟨K, mg, a⟩ L H ds' vs' → Q .non (upd H l (.lst vs'))) → r (.ref l) vx H Q
def sMu (op : List D → List D → Option (List D)) (i : Nat) (fs : DEnv → M (List D)) (ε : DEnv) : M Fl := match ownAt i ε with
  | some ds => sx ε (fs ε) fun xs => liftO (op ds xs) >>= fun ds' => pure (.nx (ε.set i (some (.lst ds'))))
  | none => M.fail
/-- an owned list rewritten -/
theorem SRel.rewrite {K : PySem.W.Frag} {mg : Str → Option Value} {P : FP K mg} {σ : St} {H : Hp} {ε : DEnv} {p : Pool} (r : SRel P own σ H ε p) {i : Nat} {q : Addr} {ds' : List D} {vs' : List V} (hi : i ∈ own) (e : σ[i]? = some (some (.ref q))) (rs : Reps P.g (LL P own σ) H ds' vs') :
    SRel P own σ (upd H q (.lst vs')) (ε.set i (some (.lst ds'))) p ∧ Grow P own σ H σ (upd H q (.lst vs')) := by
  have hq : LL P own σ q := .inr (.inr ⟨i, hi, e⟩)
  have k : Kp (LL P own σ) H (upd H q (.lst vs')) := fun q' u e' n => by
    rw [upd_ne (by intro z; subst z; exact n hq)]
    exact e'
  exact ⟨r.write hi e (.inl ⟨vs', upd_same⟩) ⟨vs', upd_same, Reps.mono k (fun _ h => .inl h) _ _ rs⟩, Grow.write hq⟩
theorem SRel.ownd {K : PySem.W.Frag} {mg : Str → Option Value} {P : FP K mg} {σ : St} {H : Hp} {ε : DEnv} {p : Pool} (r : SRel P own σ H ε p) {i : Nat} {ds : List D} (hi : i ∈ own) (e : ε[i]? = some (some (.lst ds))) : ∃ q vs, σ[i]? = some (some (.ref q)) ∧ H q = some (.lst vs) ∧ Reps P.g (LL P own σ) H ds vs := by
  obtain ⟨q, e1, vs, e2, rs⟩ := r.owned i _ hi e
  exact ⟨q, vs, e1, e2, rs⟩
theorem SRel.lift {K : PySem.W.Frag} {mg : Str → Option Value} {P : FP K mg} {σ : St} {H : Hp} {ε : DEnv} {p : Pool} (r : SRel P own σ H ε p) (zs : List D) (ws : List V) (hf : D.frees zs = true) (h : Reps P.g (L0 P) H zs ws) : Reps P.g (LL P own σ) H zs ws := Reps.freed (fun q z => r.notTup z) zs ws hf h
theorem pds_mu {name : Str} {id : String} {x : Str} {i : Nat} {r : V → List V → Hp → VK → Prop} {op : List D → List D → Option (List D)} {apos cpos : Pos} (slot : Slot "list" name id) (hty : typeOf (.builtin id) = pure (.type "method_descriptor")) (hm : MtR X id r) (hr : MuR X.K X.mg r op) (ha : PDA X W own (e :: es) fs)
    (hN : X.N[i]? = some x := by rfl) (hv : Vis X.env.scope x := by first | exact Or.inl rfl | exact Or.inr (Or.inl rfl) | exact Or.inr (Or.inr rfl)) (ho : i ∈ own := by decide) (hd : (x == ("__debug__" : Str)) = false := by decide) (hcd : (x == ("__classdict__" : Str)) = false := by decide)
    (hbase : attributeBase (.Name x p2) name X.env (eval (.Name x p2) X.env) = eval (.Name x p2) X.env := by rfl)
    (hfew : ((backTo cpos (starEach (e :: es) X.env)).all (fun x => !x.1) && (backToKw cpos (keywordEach [] X.env)).all (fun x => x.1.isSome)
      && decide ((e :: es).length + ([] : List Keyword).length + (if ([] : List Keyword).isEmpty then 0 else 1) < 30)) = true := by rfl)
    (hline : (apos.endLine == cpos.line) = true := by rfl) (hs : starEach (e :: es) X.env = (false, eval e X.env) :: starEach es X.env := by rfl) (hplain : (backTo cpos (starEach es X.env)).any (·.1) = false := by rfl)
    (hsw : swapsWith (.Call (.Attribute (.Name x p2) name apos) (e :: es) [] cpos) none pos.line X.env = pure false := by rfl) :
    PDS X W own (.Expr (.Call (.Attribute (.Name x p2) name apos) (e :: es) [] cpos) pos) (sMu op i fs) :=
  (ps_expr (pe_bm PySem.F.plainAttrs_list slot hty hm (pe_var hN hv hd hcd) ha hbase hfew hline hs hplain) hsw).imp fun Z σ H ⟨P, ε, p, rel, q⟩ => by
  unfold sMu at q
  cases ed : ownAt i ε with
  | some ds =>
    rw [ed] at q
    have ed' := ownAt_some ed
    obtain ⟨l, vs, e1, e2, rs⟩ := rel.ownd ho ed'
    refine ⟨.ref l, e1, .inl ⟨rfl, vs, SqL.of e2⟩, ?_⟩
    refine tDA.sxq (k := fun xs ε => liftO (op ds xs) >>= fun ds' => pure (Fl.nx (ε.set i (some (.lst ds'))))) rel q fun xs vx H1 p1 k1 r1 rx q1 => ?_
    obtain ⟨ds', eo, q2⟩ := Post.lift (Post.thn q1)
    obtain ⟨l', vs1, e1', e2', rs1⟩ := r1.ownd ho ed'
    have el : l' = l := by
      rw [e1] at e1'
      cases e1'
      rfl
    subst el
    refine hr P.a (L0 P) (LL P own σ) H1 l' ds xs ds' vs1 vx _ r1.lift e2' rs1 rx eo fun vs' rs' => ?_
    obtain ⟨rr, gg⟩ := r1.rewrite ho e1 rs'
    exact q2 σ _ rr gg
  | none =>
    rw [ed] at q
    exact q.elim
end
def appD : List D → List D → Option (List D)
  | ds, [d] => if d.free = true ∧ ds.length < 10000 then some (ds ++ [d]) else none
  | _, _ => none
def insD : List D → List D → Option (List D)
  | ds, [.int i, d] => if d.free = true ∧ ds.length < 10000 ∧ 0 ≤ i ∧ i < 2 ^ 62 then some (ds.take i.toNat ++ [d] ++ ds.drop i.toNat) else none
  | _, _ => none
def extD : List D → List D → Option (List D)
  | ds, [.lst es] => if D.frees es = true ∧ ds.length < 10000 ∧ es.length < 10000 then some (ds ++ es) else none
  | _, _ => none
section
variable {K : PySem.W.Frag} {mg : Str → Option Value}
theorem frees_one {d : D} (h : d.free = true) : D.frees [d] = true := by
  unfold D.frees D.frees
  rw [h]
  rfl
theorem mu_app : MuR K mg rAppend appD := by
  intro a L0 L H l ds xs ds' vs vx Q hl el rs rx eo q
  unfold appD at eo
  split at eo
  · split at eo
    · rename_i d h
      cases eo
      obtain ⟨v, rfl, rv⟩ := rx.one
      have := line10
      have := rs.length
      exact ⟨l, vs, v, rfl, rfl, el, by omega, q _ (Reps.append rs (hl [d] [v] (frees_one h.1) rx))⟩
    · cases eo
  · cases eo
theorem mu_ins : MuR K mg (fun x vs H Q => ∃ (l : Addr) (xs : List V) (i : Int) (y : V), x = .ref l ∧ vs = [.int i, y] ∧ H l = some (.lst xs) ∧ xs.length < sizeLine ∧ 0 ≤ i ∧ i < 2 ^ 63 ∧
    Q .non (upd H l (.lst (xs.take i.toNat ++ [y] ++ xs.drop i.toNat)))) insD := by
  intro a L0 L H l ds xs ds' vs vx Q hl el rs rx eo q
  unfold insD at eo
  split at eo
  · split at eo
    · rename_i i d h
      cases eo
      obtain ⟨v, w, rfl, rv, rw2⟩ := rx.two
      unfold Rep at rv
      have := line10
      have := rs.length
      have h4 := hl [d] [w] (frees_one h.1) (.cons rw2 .nil)
      refine ⟨l, vs, i, w, rfl, by rw [rv], el, by omega, h.2.2.1, by have := h.2.2.2; omega, q _ (Reps.append (Reps.append (rs.take _) h4) (Reps.drop _ rs))⟩
    · cases eo
  · cases eo
theorem mu_ext : MuR K mg rExtend extD := by
  intro a L0 L H l ds xs ds' vs vx Q hl el rs rx eo q
  unfold extD at eo
  split at eo
  · split at eo
    · rename_i es h
      cases eo
      obtain ⟨v, rfl, rv⟩ := rx.one
      unfold Rep at rv
      obtain ⟨b, ws, rfl, t, rs2⟩ := rv
      have := line10
      have := rs.length
      have := rs2.length
      have l20 : 20000 ≤ sizeLine := by rw [sizeLine_eq]; decide
      exact ⟨l, b, vs, ws, rfl, rfl, el, t.2, by omega, q _ (Reps.append rs (hl es ws h.1 rs2))⟩
    · cases eo
  · cases eo
end
section
variable {X : Cx} {W : WX} {own : List Nat} {e a b c : Expr} {es : List Expr} {pos p2 p3 : Pos} {f g h : DEnv → M D} {fs : DEnv → M (List D)} {x : Str} {i : Nat} {apos cpos : Pos}
theorem pds_append (ha : PDA X W own [e] fs) (hN : X.N[i]? = some x := by rfl) (hv : Vis X.env.scope x := by first | exact Or.inl rfl | exact Or.inr (Or.inl rfl) | exact Or.inr (Or.inr rfl)) (ho : i ∈ own := by decide) (hd : (x == ("__debug__" : Str)) = false := by decide) (hcd : (x == ("__classdict__" : Str)) = false := by decide)
    (hbase : attributeBase (.Name x p2) "append" X.env (eval (.Name x p2) X.env) = eval (.Name x p2) X.env := by rfl)
    (hfew : ((backTo cpos (starEach [e] X.env)).all (fun x => !x.1) && (backToKw cpos (keywordEach [] X.env)).all (fun x => x.1.isSome)
      && decide ([e].length + ([] : List Keyword).length + (if ([] : List Keyword).isEmpty then 0 else 1) < 30)) = true := by rfl)
    (hline : (apos.endLine == cpos.line) = true := by rfl) (hs : starEach [e] X.env = (false, eval e X.env) :: starEach [] X.env := by rfl) (hplain : (backTo cpos (starEach [] X.env)).any (·.1) = false := by rfl)
    (hsw : swapsWith (.Call (.Attribute (.Name x p2) "append" apos) [e] [] cpos) none pos.line X.env = pure false := by rfl) :
    PDS X W own (.Expr (.Call (.Attribute (.Name x p2) "append" apos) [e] [] cpos) pos) (sMu appD i fs) := pds_mu PySem.F.slot_list_append (by rfl) mt_append mu_app ha hN hv ho hd hcd hbase hfew hline hs hplain hsw
theorem pds_extend (ha : PDA X W own [e] fs) (hN : X.N[i]? = some x := by rfl) (hv : Vis X.env.scope x := by first | exact Or.inl rfl | exact Or.inr (Or.inl rfl) | exact Or.inr (Or.inr rfl)) (ho : i ∈ own := by decide) (hd : (x == ("__debug__" : Str)) = false := by decide) (hcd : (x == ("__classdict__" : Str)) = false := by decide)
    (hbase : attributeBase (.Name x p2) "extend" X.env (eval (.Name x p2) X.env) = eval (.Name x p2) X.env := by rfl)
    (hfew : ((backTo cpos (starEach [e] X.env)).all (fun x => !x.1) && (backToKw cpos (keywordEach [] X.env)).all (fun x => x.1.isSome)
      && decide ([e].length + ([] : List Keyword).length + (if ([] : List Keyword).isEmpty then 0 else 1) < 30)) = true := by rfl)
    (hline : (apos.endLine == cpos.line) = true := by rfl) (hs : starEach [e] X.env = (false, eval e X.env) :: starEach [] X.env := by rfl) (hplain : (backTo cpos (starEach [] X.env)).any (·.1) = false := by rfl)
    (hsw : swapsWith (.Call (.Attribute (.Name x p2) "extend" apos) [e] [] cpos) none pos.line X.env = pure false := by rfl) :
    PDS X W own (.Expr (.Call (.Attribute (.Name x p2) "extend" apos) [e] [] cpos) pos) (sMu extD i fs) := pds_mu PySem.F.slot_list_extend (by rfl) mt_extend mu_ext ha hN hv ho hd hcd hbase hfew hline hs hplain hsw
theorem pds_insert (ha : PDA X W own [e, b] fs) (hN : X.N[i]? = some x := by rfl) (hv : Vis X.env.scope x := by first | exact Or.inl rfl | exact Or.inr (Or.inl rfl) | exact Or.inr (Or.inr rfl)) (ho : i ∈ own := by decide) (hd : (x == ("__debug__" : Str)) = false := by decide) (hcd : (x == ("__classdict__" : Str)) = false := by decide)
    (hbase : attributeBase (.Name x p2) "insert" X.env (eval (.Name x p2) X.env) = eval (.Name x p2) X.env := by rfl)
    (hfew : ((backTo cpos (starEach [e, b] X.env)).all (fun x => !x.1) && (backToKw cpos (keywordEach [] X.env)).all (fun x => x.1.isSome)
      && decide ([e, b].length + ([] : List Keyword).length + (if ([] : List Keyword).isEmpty then 0 else 1) < 30)) = true := by rfl)
    (hline : (apos.endLine == cpos.line) = true := by rfl) (hs : starEach [e, b] X.env = (false, eval e X.env) :: starEach [b] X.env := by rfl) (hplain : (backTo cpos (starEach [b] X.env)).any (·.1) = false := by rfl)
    (hsw : swapsWith (.Call (.Attribute (.Name x p2) "insert" apos) [e, b] [] cpos) none pos.line X.env = pure false := by rfl) :
    PDS X W own (.Expr (.Call (.Attribute (.Name x p2) "insert" apos) [e, b] [] cpos) pos) (sMu insD i fs) := pds_mu PySem.F.slot_list_insert (by rfl) mt_insert mu_ins ha hN hv ho hd hcd hbase hfew hline hs hplain hsw
/-- x[b] = a, x owned -/
def sItO (i : Nat) (g f : DEnv → M D) (ε : DEnv) : M Fl := sx ε (f ε) fun d => match ownAt i ε with
  | some ds => sx ε (g ε) fun y => liftO (asI y) >>= fun j => liftO (ixN ds.length j) >>= fun n => if d.free = true then pure (.nx (ε.set i (some (.lst (ds.set n d))))) else M.fail
  | none => M.fail
theorem pds_itO (ha : PD X W own a f) (hb : PD X W own b g) (hN : X.N[i]? = some x := by rfl) (hv : Vis X.env.scope x := by first | exact Or.inl rfl | exact Or.inr (Or.inl rfl) | exact Or.inr (Or.inr rfl)) (ho : i ∈ own := by decide) 
    (hsub : ∀ v, assign (.Subscript (.Name x p2) b p3) X.env v = (do
      let ov ← holding [v] (eval (.Name x p2) X.env)
      let iv ← holding [v, ov] (eval b X.env)
      standAt p3
      holding [v, ov, iv] (setItem ov iv v)
      release [v, ov, iv] []) := by intro _; rfl)
    (hd : (x == ("__debug__" : Str)) = false := by decide) (hcd : (x == ("__classdict__" : Str)) = false := by decide) (hs : swapsWithSole [.Subscript (.Name x p2) b p3] a pos.line X.env = pure false := by rfl) (hw : swappedStores [.Subscript (.Name x p2) b p3] a X.env = pure none := by rfl)
    (h1 : (assignEach [.Subscript (.Name x p2) b p3] X.env).map (·.2) = [assign (.Subscript (.Name x p2) b p3) X.env] := by rfl) : PDS X W own (.Assign [.Subscript (.Name x p2) b p3] a pos) (sItO i g f) :=
  (ps_asg ha (pg_sub (pe_var hN hv hd hcd) hb set_list hsub) hs hw h1).imp fun Z σ H ⟨P, ε, p, rel, q⟩ => by
  refine tD.sxq (k := fun d ε => match ownAt i ε with | some ds => sx ε (g ε) fun y => liftO (asI y) >>= fun j => liftO (ixN ds.length j) >>= fun n => if d.free = true then pure (.nx (ε.set i (some (.lst (ds.set n d))))) else M.fail | none => M.fail) rel q fun d v H1 p1 k1 r1 rv q1 => ?_
  clear q
  cases ed : ownAt i ε with
  | some ds =>
    rw [ed] at q1
    have ed' := ownAt_some ed
    obtain ⟨l, vs, e1, e2, rs⟩ := r1.ownd ho ed'
    refine ⟨.ref l, e1, ?_⟩
    refine tD.sxq (k := fun y ε => liftO (asI y) >>= fun j => liftO (ixN ds.length j) >>= fun n => if d.free = true then pure (.nx (ε.set i (some (.lst (ds.set n d))))) else M.fail) r1 q1 fun d2 v2 H2 p2 k2 r2 rv2 q2 => ?_
    clear q1
    obtain ⟨j, ej, q3⟩ := Post.lift (Post.thn q2)
    clear q2
    obtain ⟨n, en, q4⟩ := Post.lift (Post.thn q3)
    clear q3
    obtain rfl := asI_some ej
    unfold Rep at rv2
    split at q4
    · rename_i hf
      obtain ⟨l', vs2, e1', e2', rs2⟩ := r2.ownd ho ed'
      have el : l' = l := by
        rw [e1] at e1'
        cases e1'
        rfl
      subst el
      have rv' : Rep P.g (L0 P) H2 d v := Rep.mono (k2.weak fun q h => .inr h) (fun _ h => .inl h) d v rv
      refine ⟨l', vs2, j, n, rfl, rv2, e2', by rw [rs2.length]; exact en, ?_⟩
      obtain ⟨rr, gg⟩ := r2.rewrite ho e1 (Reps.set (r2.strong rv' (.inr hf)) n rs2)
      exact q4 σ _ rr gg
    · exact q4.elim
  | none =>
    rw [ed] at q1
    exact q1.elim
end
end DL

end
section
namespace DL
open PySem PySem.Spec L2
/-! ### y = f(x.pop()[k], ..), x owned -/
def sPopC (i j : Nat) (k : Int) (n : Nat) (m : List D → M D) (fs : DEnv → M (List D)) (ε : DEnv) : M Fl := match ownAt i ε with
  | some ds => liftO (ds[ds.length - 1]?) >>= fun d => liftO (ixD d (.int k)) >>= fun d0 =>
      sx (ε.set i (some (.lst ds.dropLast))) (fs (ε.set i (some (.lst ds.dropLast))) >>= fun xs => if (d0 :: xs).length = n then m (d0 :: xs) else M.fail) fun r => if r.free = true then pure (.nx ((ε.set i (some (.lst ds.dropLast))).set j (some r))) else M.fail
  | none => M.fail
theorem Reps.dropLast {g : G} {L : Addr → Prop} {H : Hp} {ds : List D} {vs : List V} (r : Reps g L H ds vs) : Reps g L H ds.dropLast vs.dropLast := by
  rw [List.dropLast_eq_take, List.dropLast_eq_take, r.length]
  exact r.take _
section
variable {X : Cx} {W : WX} {own : List Nat} {e a b c : Expr} {es : List Expr} {pos p p2 p3 p4 apos cpos : Pos} {f g h : DEnv → M D} {fs : DEnv → M (List D)} {k k' n : Nat} {fa : Addr} {fd : FuncData} {ps : List Str} {nw : Bool} {m : List D → M D} {x y z : Str} {i j jj : Nat} {ki : Int}
theorem pds_popC (C : CalF X.prog X.w X.K X.mg X.base k z fa fd ps nw m) (hr : Room k' X.A) (hgd : X.A.guards = some []) (tk : Takes X W) (ha : PDA X W own es fs) (hNd : X.N.Nodup) (hk : k ≤ k' := by decide) (hn : ps.length = n := by rfl) (hg : Gl X z := by rfl) (hdb : (z == ("__debug__" : Str)) = false := by decide)
    (hN : X.N[i]? = some x := by rfl) (hv : Vis X.env.scope x := by first | exact Or.inl rfl | exact Or.inr (Or.inl rfl) | exact Or.inr (Or.inr rfl)) (ho : i ∈ own := by decide) (hd : (x == ("__debug__" : Str)) = false := by decide) (hcd : (x == ("__classdict__" : Str)) = false := by decide)
    (hNy : X.N[j]? = some y := by rfl) (hy : Loc X.env.scope y := by first | exact .inl rfl | exact .inr rfl) (hoy : j ∉ own := by decide)
    (hbase : attributeBase (.Name x p2) "pop" X.env (eval (.Name x p2) X.env) = eval (.Name x p2) X.env := by rfl) (hline : (apos.endLine == cpos.line) = true := by rfl)
    (hpi : PlainIx (.Constant (.int ki) jj p3) := by intro _ _; rfl)
    (he : starEach (.Subscript (.Call (.Attribute (.Name x p2) "pop" apos) [] [] cpos) (.Constant (.int ki) jj p3) p :: es) X.env = (false, eval (.Subscript (.Call (.Attribute (.Name x p2) "pop" apos) [] [] cpos) (.Constant (.int ki) jj p3) p) X.env) :: starEach es X.env := by rfl)
    {p5 p6 p7 : Pos} (hpl : (backTo p6 (starEach es X.env)).any (·.1) = false := by rfl)
    (hs : swapsWith (.Call (.Name z p5) (.Subscript (.Call (.Attribute (.Name x p2) "pop" apos) [] [] cpos) (.Constant (.int ki) jj p3) p :: es) [] p6) (some (.Name y p7)) pos.line X.env = pure false := by rfl)
    (hf : X.fn y = true ∨ X.env.scope.names.lookup y = some .local := by first | exact .inl rfl | exact .inr rfl) :
    PDS X W own (.Assign [.Name y p7] (.Call (.Name z p5) (.Subscript (.Call (.Attribute (.Name x p2) "pop" apos) [] [] cpos) (.Constant (.int ki) jj p3) p :: es) [] p6) pos) (sPopC i j ki n m fs) := by
  subst hn
  have hA : PA X (.Subscript (.Call (.Attribute (.Name x p2) "pop" apos) [] [] cpos) (.Constant (.int ki) jj p3) p :: es) (tCons (tOp (rIx X.K) (tBM0 X.K "list" rPop (tVar i)) (tC (.int ki))) (tDA X.K X.mg W own fs)) :=
    pa_cons (pe_ix ix_seq (pe_bm0 PySem.F.plainAttrs_list PySem.F.slot_list_pop (by rfl) mt_pop (pe_var hN hv hd hcd) hbase hline) pe_int hpi) ha he
  have hC : PE X (.Call (.Name z p5) (.Subscript (.Call (.Attribute (.Name x p2) "pop" apos) [] [] cpos) (.Constant (.int ki) jj p3) p :: es) [] p6) (fun σ H R => tCons (tOp (rIx X.K) (tBM0 X.K "list" rPop (tVar i)) (tC (.int ki))) (tDA X.K X.mg W own fs) σ H fun vs H1 => spD X.K X.mg ps.length nw m vs H1 R (WE W σ)) := by
    refine ⟨fun pins s σ H R I h => ?_⟩
    refine wpAny_Call_Name_kw (ld_glob I hg C.mg ?_ hdb)
    refine PySem.W.callWith_K (h₀ := X.base) I.ok.mod.kin C.kp (thn (hA.run p6 pins s σ H _ I h) fun us s1 ⟨vs, H1, I1, rv, z⟩ => ⟨I1.kIn, ?_⟩) he hpl
    exact run_fnD C.fn (hr.mono hk) hgd C.bd tk I1 rv z
  refine (ps_set hNd hNy hy hC hs hf).imp fun Z σ H ⟨P, ε, p, r, q⟩ => ?_
  unfold sPopC at q
  cases ed : ownAt i ε with
  | none =>
    rw [ed] at q
    exact q.elim
  | some ds =>
    rw [ed] at q
    have ed' := ownAt_some ed
    obtain ⟨l, vs, e1, e2, rs⟩ := r.ownd ho ed'
    obtain ⟨d, edl, q1⟩ := Post.lift (Post.thn q)
    obtain ⟨d0, ed0, q2⟩ := Post.lift (Post.thn q1)
    clear q q1
    obtain ⟨u, eu, ru⟩ := rs.get edl
    have hlen := rs.length
    obtain ⟨r1, g1⟩ := r.rewrite ho e1 rs.dropLast
    have hq : LL P own σ l := .inr (.inr ⟨i, ho, e1⟩)
    have kl : Kp (LL P own σ) H (upd H l (.lst vs.dropLast)) := fun q' o' e' n => by
      rw [upd_ne (by intro z; subst z; exact n hq)]
      exact e'
    have ru1 : Rep P.g (L0 P) (upd H l (.lst vs.dropLast)) d u := Rep.mono kl (fun q h => .inl h.LL) d u ru
    refine ⟨.ref l, e1, .inl ⟨rfl, vs, SqL.of e2⟩, l, vs, u, rfl, rfl, e2, by rw [hlen]; exact eu, ?_⟩
    refine o_ix P.a (L0 P) _ d (.int ki) d0 u (.int ki) _ r1.there ru1 (by unfold Rep; rfl) ed0 fun v0 H2 s2 rv0 => ?_
    have r2 := r1.stepS s2
    have g2 : Grow P own σ H σ H2 := g1.trans (Grow.ex (Kp.same s2))
    have q3 := sx_post (k := fun r => if r.free = true then pure (Fl.nx ((ε.set i (some (.lst ds.dropLast))).set j (some r))) else M.fail) q2
    have q4 := Post.thn q3
    refine ⟨P, _, p, r2, q4.mono (fun xs p3 z vs3 H3 k3 po3 rs3 => ?_) fun c d p3 z cv dx H' k po x => z σ cv dx H' (r2.step k po) (g2.trans (Grow.ex k)) x⟩
    have r3 := r2.step k3 po3
    split at z
    · rename_i hl
      have rv3 : Reps P.g (L0 P) H3 (d0 :: xs) (v0 :: vs3) := .cons (Rep.mono (k3.weak fun q h => .inr h) (fun _ h => .inl h) d0 v0 rv0) rs3
      refine spD_of r3 rv3 hl (z.mono (fun rr p4 q5 v4 H4 k4 po4 rv4 => ?_) fun c d p4 z cv dx H' k po x => z σ cv dx H' (r3.step k po) (g2.trans (Grow.ex (k3.trans k))) x)
      split at q5
      · rename_i hfr
        have r4 := r3.step k4 po4
        exact q5 _ H4 (r4.set hoy (r4.strong rv4 (.inr hfr))) ((g2.trans (Grow.ex (k3.trans k4))).trans (Grow.set hoy))
      · exact q5.elim
    · exact z.elim
end
/-! ### a def that hands back a new list, by any statements ahead -/
def nxV (o : M Fl) (k : DEnv → M D) : M D := fun p => match o p with
  | .ok (.nx ε) p' => k ε p'
  | .ok (.xc c d _) p' => .ex c d p'
  | _ => .bad
def seqV (f : DEnv → M D) : List (DEnv → M Fl) → DEnv → M D
  | [], ε => f ε
  | m :: ms, ε => nxV (m ε) fun ε' => seqV f ms ε'
def runV (ms : List (DEnv → M Fl)) (f : DEnv → M D) (n : Nat) (ds : List D) : M D := seqV f ms (ds.map some ++ List.replicate (n - ds.length) none)
def RK {K : PySem.W.Frag} {mg : Str → Option Value} (P : FP K mg) (Q : VK) : D → Pool → Prop := fun d p' => ∀ q H', Kp (AA P) P.H0 H' → PoolOk P.g H' p' → P.H0 q = none → Rep P.g (L0 P) H' d (.ref q) → Q (.ref q) H'
def XK0 {K : PySem.W.Frag} {mg : Str → Option Value} (P : FP K mg) (E : XK) : Str → Option (Str × D) → Pool → Prop := fun c d p' => ∀ cv dx H', Kp (AA P) P.H0 H' → PoolOk P.g H' p' → ExR P (L0 P) H' c d cv dx → E cv dx H'
def tDR (K : PySem.W.Frag) (mg : Str → Option Value) (W : WX) (own : List Nat) (f : DEnv → M D) : TE := fun σ H Q => ∃ (P : FP K mg) (ε : DEnv) (p : Pool), SRel P own σ H ε p ∧ Post (f ε p) (RK P Q) (XKx P σ H W)
abbrev PDR (X : Cx) (W : WX) (own : List Nat) (e : Expr) (f : DEnv → M D) : Prop := PE X e (tDR X.K X.mg W own f)
section
variable {X : Cx} {W : WX} {own : List Nat} {e : Expr} {f : DEnv → M D} {pos : Pos} {i : Nat} {x : Str}
theorem pdr_new (h : PDN X W own e f) : PDR X W own e f := L2.PE.imp h fun σ H Q ⟨P, ε, p, r, q⟩ =>
  ⟨P, ε, p, r, q.mono (fun d p' z q H' k po n rv => z q H' (r.keep.trans k) po (r.new0 n) rv) fun _ _ _ z => z⟩
theorem pdr_own (hN : X.N[i]? = some x := by rfl) (hv : Vis X.env.scope x := by first | exact Or.inl rfl | exact Or.inr (Or.inl rfl) | exact Or.inr (Or.inr rfl)) (ho : i ∈ own := by decide) (hd : (x == ("__debug__" : Str)) = false := by decide) (hcd : (x == ("__classdict__" : Str)) = false := by decide) :
    PDR X W own (.Name x pos) (dVar i) := (pe_var hN hv hd hcd).imp fun σ H Q ⟨P, ε, p, r, q⟩ => by
  obtain ⟨d, e, q⟩ := Post.lift q
  obtain ⟨v, e1, rv⟩ := r.read (dVar_get e)
  obtain ⟨q', rfl, n, _⟩ := r.ownst i ho v e1
  exact ⟨.ref q', e1, q q' H r.keep r.pool n rv⟩
end
section
variable {K : PySem.W.Frag} {mg : Str → Option Value} {P : FP K mg} {own : List Nat} {E : XK} {f : DEnv → M D} {Z : Ends}
theorem seqV_reading : ∀ (ms : List (DEnv → M Fl)) {σ : St} {H : Hp} {ε : DEnv} {p : Pool}, SRel P own σ H ε p →
    Post (seqV f ms ε p) (RK P Z.rt) (XK0 P E) → seqT K mg (fun cls d _ H' => E cls d H') own ms (tRet (tDR K mg (fun cls d _ H' => E cls d H') own f)) Z σ H
  | [], σ, H, ε, p, r, q => ⟨P, ε, p, r, q.mono (fun _ _ z => z) fun c d p' z cv dx H' k po x => z cv dx H' (r.keep.trans k) po x⟩
  | m :: ms, σ, H, ε, p, r, q => by
    have q' : Post (nxV (m ε) (fun ε' => seqV f ms ε') p) (RK P Z.rt) (XK0 P E) := q
    unfold nxV at q'
    refine ⟨P, ε, p, r, ?_⟩
    cases e : m ε p with
    | bad => rw [e] at q'; exact q'.elim
    | ex c d p' => rw [e] at q'; exact q'.elim
    | ok fl p' =>
      rw [e] at q'
      cases fl with
      | nx ε' => exact fun σ' H' r' g' => seqV_reading ms r' q'
      | rt d => exact q'.elim
      | bk ε' => exact q'.elim
      | ct ε' => exact q'.elim
      | xc c d ε' => exact fun σ' cv dx H' r' g' ex => q' cv dx H' r'.keep r'.pool ex
end
section
variable {Pr : Program} {w : World} {K : PySem.W.Frag} {mg : Str → Option Value} {base : Heap}
theorem fnD_V {x qual : Str} {st : Stmt} {f : Addr} {fd : FuncData} {N ps : List Str} {k : Nat} {ms : List (DEnv → M Fl)} {fe : DEnv → M D} {own : List Nat} (F : Fun K x qual st f fd) (S : FnScope N ps (defScope st)) (hown : ∀ i, i ∈ own → ps.length ≤ i)
    (hb : ∀ (cd : Value) (A : Around) (outer : List PySem.Env) (s : Shared) (H : Hp) (E : XK), Room k (A.deeper (PyProof.Rows.envOfC qual (defScope st) s.heap.objs.size f cd)) → A.guards = some [] →
      PSs (cxOf (L2.CX Pr w) Pr w K mg base N qual (defScope st) f cd A outer s H E) (defBody st) (seqT K mg (fun cls d _ H' => E cls d H') own ms (tRet (tDR K mg (fun cls d _ H' => E cls d H') own fe)))) :
    FnD Pr w K mg base (k + 1) f fd ps true (runV ms fe N.length) := by
  obtain ⟨oc, od, kV, doc, pm, an, cd, ct, osl, rfl, lk, hcd⟩ := F.ex
  refine ⟨fun A outer s H args us vs Q E hr hgd e0 hbind rv hsp => ?_⟩
  obtain ⟨P, ds, p, hlen, rfl, hL, hap, po, rds, post⟩ := hsp
  have inK : K.In s.heap := e0.mod.kin.keeps fun b o z => (e0.bs b o z).1
  have noLim : s.heap.NoLimit := e0.mod.nolimit.keeps fun b o z => (e0.bs b o z).1
  have hN : vs.length ≤ N.length := by
    have := congrArg List.length S.pre
    rw [List.length_take] at this
    omega
  have rel := srel_start (own := own) (N := N) (fun i hi => by have := hown i hi; omega) hN hL hap po rds
  have kinds : ∀ y ∈ ps.zip us, (defScope st).names.lookup y.1 = some .local ∨ ((defScope st).names.lookup y.1 = some .cell ∧ ((cellsFrom (s.heap.objs.size + 1) (defScope st).names []).lookup y.1).isSome = true) := by
    rintro ⟨nm, u⟩ hy
    exact (S.par nm (List.of_mem_zip hy).1).imp id fun z => ⟨z, PySem.W.cellsFrom_some _ _ _ (.inl z)⟩
  refine codeAny_call_function hr.depth (inK _ _ lk) rfl S.co S.gen rfl (PySem.W.codeRec_of inK hcd) (hbind _ _ _ _ ?_)
  refine wpAny_newFunctionEnv_cells S.kind kinds fun env hen s1 hin => ?_
  subst hen
  refine ⟨noLim.keeps hin.toInCall.keep, codeAny_func ?_⟩
  have J : Inv (cxOf (L2.CX Pr w) Pr w K mg base N qual (defScope st) f cd A outer s P.H0 E) [] (L2.start N vs) P.H0 s1 := inv_start S hr.hd e0 hlen rv hin
  have body := hb cd A outer s P.H0 E (hr.deeper _) hgd
  have reading : seqT K mg (fun cls d _ H' => E cls d H') own ms (tRet (tDR K mg (fun cls d _ H' => E cls d H') own fe)) { nx := fun _ H' => Q .non H', rt := Q } (L2.start N vs) P.H0 :=
    seqV_reading ms rel (post.mono (fun d p' z q H' k1 po1 hq rv1 => z (.ref q) H' k1 po1 rv1 fun _ => ⟨q, rfl, hq⟩) fun c d p' z => z)
  refine wpAny_mono (body.run [] s1 (L2.start N vs) P.H0 _ J reading) (fun fl s' hs => ?_) fun _ _ z => z
  cases fl with
  | ret u =>
    obtain ⟨v, σ', H', J', rv', q⟩ := hs
    exact ⟨v, H', J'.os, J'.bare, J'.base, J'.hok, rv', q⟩
  | next =>
    obtain ⟨σ', H', J', q⟩ := hs
    exact ⟨.non, H', J'.os, J'.bare, J'.base, J'.hok, rfl, q⟩
  | brk =>
    obtain ⟨_, _, _, q⟩ := hs
    exact q.elim
  | cont =>
    obtain ⟨_, _, _, q⟩ := hs
    exact q.elim
end
/-! ### how the functions of data are worked out -/
section
variable (ε : DEnv) (p : Pool) (f g h : DEnv → M D) (fb gb : DEnv → M Bool) (fs gs : DEnv → M (List D))
@[simp] theorem dNewL_ap : dNewL f ε p = (f ε p).thn fun d p => Out.ofO (newL d) p := rfl
theorem newL_l (ds : List D) : newL (.lst ds) = if D.frees ds = true then some (.lst ds) else none := rfl
@[simp] theorem newL_ok (ds : List D) (hf : D.frees ds = true) : newL (.lst ds) = some (.lst ds) := if_pos hf
@[simp] theorem dFree_ap : dFree f ε p = (f ε p).thn fun d p => if d.free = true then .ok d p else .bad := by
  show (f ε p).thn (fun d p' => (if d.free = true then pure d else M.fail : M D) p') = _
  congr; funext d p'; split <;> rfl
@[simp] theorem dSlN_ap (lo hi : DEnv → M (Option Int)) : dSlN f lo hi ε p = (f ε p).thn fun d p => (lo ε p).thn fun l p => (hi ε p).thn fun h p => Out.ofO (slN l h d) p := rfl
@[simp] theorem slN_l (lo hi : Option Int) (ds : List D) : slN lo hi (.lst ds) = some (.lst (cut ds lo hi)) := rfl
@[simp] theorem slN_r (lo hi : Option Int) (ds : List D) : slN lo hi (.rol ds) = some (.lst (cut ds lo hi)) := rfl
@[simp] theorem revN_l (ds : List D) : revN (.lst ds) = some (.lst ds.reverse) := rfl
@[simp] theorem revN_r (ds : List D) : revN (.rol ds) = some (.lst ds.reverse) := rfl
@[simp] theorem dStar_ap : dStar f fs ε p = (f ε p).thn fun d p => (Out.ofO (seqO d) p).thn fun xs p => (fs ε p).thn fun ys p => .ok (xs ++ ys) p := rfl
@[simp] theorem ownAt_eq (i : Nat) (ds : List D) (he : ε[i]? = some (some (.lst ds))) : ownAt i ε = some ds := by
  unfold ownAt
  rw [he]
@[simp] theorem sMu_ap (op : List D → List D → Option (List D)) (i : Nat) : sMu op i fs ε p = (Out.ofO (ownAt i ε) p).thn fun ds p => (fs ε p).sx ε fun xs p => (Out.ofO (op ds xs) p).thn fun ds' p => .ok (.nx (ε.set i (some (.lst ds')))) p := by
  unfold sMu
  cases ownAt i ε <;> rfl
@[simp] theorem sItO_ap (i : Nat) : sItO i g f ε p = (f ε p).sx ε fun d p => (Out.ofO (ownAt i ε) p).thn fun ds p => (g ε p).sx ε fun y p => (Out.ofO (asI y) p).thn fun j p => (Out.ofO (ixN ds.length j) p).thn fun n p => if d.free = true then .ok (.nx (ε.set i (some (.lst (ds.set n d))))) p else .bad := by
  unfold sItO
  rw [sx_ap']
  congr; funext d p'
  cases ownAt i ε with
  | none => rfl
  | some ds =>
    show (g ε p').sx ε (fun y p'' => (Out.ofO (asI y) p'').thn fun j p3 => (Out.ofO (ixN ds.length j) p3).thn fun n p4 => (if d.free = true then pure (.nx (ε.set i (some (.lst (ds.set n d))))) else M.fail : M Fl) p4) = (g ε p').sx ε _
    congr; funext y p''; congr; funext j p3; congr; funext n p4; split <;> rfl
theorem sParO_ap (i j : Nat) : sParO i j f g ε p = (f ε p).sx ε fun d p => (Out.ofO (newL d) p).thn fun d p => (g ε p).sx ε fun d' p => if d'.free = true then .ok (.nx ((ε.set i (some d)).set j (some d'))) p else .bad := by
  show (f ε p).sx ε (fun d p => (Out.ofO (newL d) p).thn fun d p => (g ε p).sx ε fun d' p => (if d'.free = true then pure (.nx ((ε.set i (some d)).set j (some d'))) else M.fail : M Fl) p) = _
  congr; funext y p''; congr; funext j p3; congr; funext n p4; split <;> rfl
theorem sParO2_ap (i j : Nat) : sParO2 i j f g ε p = (f ε p).sx ε fun d p => (g ε p).sx ε fun d' p => (Out.ofO (newL d') p).thn fun d' p => if d.free = true then .ok (.nx ((ε.set i (some d)).set j (some d'))) p else .bad := by
  show (f ε p).sx ε (fun d p => (g ε p).sx ε fun d' p => (Out.ofO (newL d') p).thn fun d' p => (if d.free = true then pure (.nx ((ε.set i (some d)).set j (some d'))) else M.fail : M Fl) p) = _
  congr; funext y p''; congr; funext j p3; congr; funext n p4; split <;> rfl
theorem appD_ok {ds : List D} {d : D} (h : d.free = true) (hl : ds.length < 10000) : appD ds [d] = some (ds ++ [d]) := if_pos ⟨h, hl⟩
theorem insD_ok {ds : List D} {d : D} {i : Int} (h : d.free = true) (hl : ds.length < 10000) (h0 : 0 ≤ i) (h1 : i < 2 ^ 62) : insD ds [.int i, d] = some (ds.take i.toNat ++ [d] ++ ds.drop i.toNat) := if_pos ⟨h, hl, h0, h1⟩
theorem extD_ok {ds es : List D} (h : D.frees es = true) (hl : ds.length < 10000) (h1 : es.length < 10000) : extD ds [.lst es] = some (ds ++ es) := if_pos ⟨h, hl, h1⟩
theorem sPopC_ap (i j : Nat) (k : Int) (n : Nat) (m : List D → M D) : sPopC i j k n m fs ε p = (Out.ofO (ownAt i ε) p).thn fun ds p => (Out.ofO (ds[ds.length - 1]?) p).thn fun d p => (Out.ofO (ixD d (.int k)) p).thn fun d0 p =>
    ((fs (ε.set i (some (.lst ds.dropLast))) p).thn fun xs p => if (d0 :: xs).length = n then m (d0 :: xs) p else .bad).sx (ε.set i (some (.lst ds.dropLast))) fun r p => if r.free = true then .ok (.nx ((ε.set i (some (.lst ds.dropLast))).set j (some r))) p else .bad := by
  unfold sPopC
  cases ownAt i ε with
  | none => rfl
  | some ds =>
    show (Out.ofO (ds[ds.length - 1]?) p).thn (fun d p => (Out.ofO (ixD d (.int k)) p).thn fun d0 p => ((fs (ε.set i (some (.lst ds.dropLast))) p).thn fun xs p => (if (d0 :: xs).length = n then m (d0 :: xs) else M.fail) p).sx (ε.set i (some (.lst ds.dropLast))) fun r p => (if r.free = true then pure (.nx ((ε.set i (some (.lst ds.dropLast))).set j (some r))) else M.fail : M Fl) p) = _
    rw [ofO_some, ok_thn]
    congr; funext d p'; congr; funext d0 p''; congr
    · congr; funext xs p3; split <;> rfl
    · funext r p3; split <;> rfl
def Out.nxv (o : Out Fl) (f : DEnv → Pool → Out D) : Out D := match o with
  | .ok (.nx ε) p => f ε p
  | .ok (.xc c d _) p => .ex c d p
  | _ => .bad
@[simp] theorem nxv_nx (k : DEnv → Pool → Out D) : (Out.ok (.nx ε) p).nxv k = k ε p := rfl
@[simp] theorem nxv_xc (c : Str) (d : Option (Str × D)) (k : DEnv → Pool → Out D) : (Out.ok (.xc c d ε) p).nxv k = .ex c d p := rfl
@[simp] theorem nxv_bad (k : DEnv → Pool → Out D) : (Out.bad).nxv k = .bad := rfl
@[simp] theorem seqV_nil : seqV f [] ε = f ε := rfl
@[simp] theorem seqV_cons (m : DEnv → M Fl) (ms : List (DEnv → M Fl)) : seqV f (m :: ms) ε p = (m ε p).nxv fun ε p => seqV f ms ε p := by
  show nxV (m ε) (fun ε' => seqV f ms ε') p = _
  unfold nxV Out.nxv
  cases m ε p with
  | ok a p' => cases a <;> rfl
  | ex c d p' => rfl
  | bad => rfl
theorem runV_ap (ms : List (DEnv → M Fl)) (n : Nat) (ds : List D) : runV ms f n ds p = seqV f ms (ds.map some ++ List.replicate (n - ds.length) none) p := rfl
end
end DL

end
section
namespace MW
open PySem PySem.Spec L2 DL
def b_is_tuple_up_to : DEnv → M Fl :=
  (sRet (dAndV (d1 (isD "tuple") (dVar 0)) (dChain leD leD (dVar 1) (dA lenD (dCons (dVar 0) dNil)) (dVar 2))))
def m_is_tuple_up_to : List D → M D := runB b_is_tuple_up_to 3
def b_is_tuple_of : DEnv → M Fl :=
  (sRet (dCall 3 MW.m_is_tuple_up_to (dCons (dVar 0) (dCons (dVar 1) (dCons (dVar 1) dNil)))))
def m_is_tuple_of : List D → M D := runB b_is_tuple_of 2
def b_is_pair : DEnv → M Fl :=
  (sRet (dCall 2 MW.m_is_tuple_of (dCons (dVar 0) (dCons (dC (.int 2)) dNil))))
def m_is_pair : List D → M D := runB b_is_pair 1
def b_is_whole : DEnv → M Fl :=
  (sRet (dAndV (d1 (isD "int") (dVar 0)) (dNotV (d1 (isD "bool") (dVar 0)))))
def m_is_whole : List D → M D := runB b_is_whole 1
def b_is_from : DEnv → M Fl :=
  (sRet (dAndV (dCall 1 MW.m_is_whole (dCons (dVar 0) dNil)) (d2 geD (dVar 0) (dVar 1))))
def m_is_from : List D → M D := runB b_is_from 2
def b_is_fraction_of : DEnv → M Fl :=
  (sSeq (sIf (dOr (dNot (dB (dCall 1 MW.m_is_pair (dCons (dVar 0) dNil)))) (dOr (dNot (dB (dCall 1 MW.m_is_whole (dCons (d2 ixD (dVar 0) (dC (.int 0))) dNil)))) (dNot (dB (dCall 2 MW.m_is_from (dCons (d2 ixD (dVar 0) (dC (.int 1))) (dCons (dC (.int 1)) dNil))))))) (sRet (dC (.bl false))) sNil) (sRet (d2 (eqD false) (dA gcdD (dCons (d2 ixD (dVar 0) (dC (.int 0))) (dCons (d2 ixD (dVar 0) (dC (.int 1))) dNil))) (dC (.int 1)))))
def m_is_fraction_of : List D → M D := runB b_is_fraction_of 1
def b_plain_of : DEnv → M Fl :=
  (sSeq (sSet false 2 (dIte (dB (d2 gtD (dVar 1) (dC (.int 0)))) (dA gcdD (dCons (dVar 0) (dCons (dVar 1) dNil))) (d1 negD (dA gcdD (dCons (dVar 0) (dCons (dVar 1) dNil)))))) (sRet (dA tupO (dCons (d2 fdivD (dVar 0) (dVar 2)) (dCons (d2 fdivD (dVar 1) (dVar 2)) dNil)))))
def m_plain_of : List D → M D := runB b_plain_of 3
def b_is_fraction : DEnv → M Fl :=
  (sRet (dCall 1 MW.m_is_fraction_of (dCons (dVar 0) dNil)))
def m_is_fraction : List D → M D := runB b_is_fraction 1
def b_plain : DEnv → M Fl :=
  (sSeq (sIf (dNot (dB (dCall 1 MW.m_is_whole (dCons (dVar 0) dNil)))) sNever sNil) (sSeq (sIf (dOr (dNot (dB (dCall 1 MW.m_is_whole (dCons (dVar 1) dNil)))) (dB (d2 (eqD false) (dVar 1) (dC (.int 0))))) sNever sNil) (sRet (dCall 2 MW.m_plain_of (dCons (dVar 0) (dCons (dVar 1) dNil))))))
def m_plain : List D → M D := runB b_plain 2
def b_check_fraction : DEnv → M Fl :=
  (sIf (dNot (dB (dCall 1 MW.m_is_fraction_of (dCons (dVar 0) dNil)))) sNever sNil)
def m_check_fraction : List D → M D := runB b_check_fraction 1
def b_check_two : DEnv → M Fl :=
  (sSeq (sDrop (dCall 1 MW.m_check_fraction (dCons (dVar 0) dNil))) (sDrop (dCall 1 MW.m_check_fraction (dCons (dVar 1) dNil))))
def m_check_two : List D → M D := runB b_check_two 2
def b_plus : DEnv → M Fl :=
  (sSeq (sDrop (dCall 2 MW.m_check_two (dCons (dVar 0) (dCons (dVar 1) dNil)))) (sRet (dCall 2 MW.m_plain_of (dCons (d2 addD (d2 mulD (d2 ixD (dVar 0) (dC (.int 0))) (d2 ixD (dVar 1) (dC (.int 1)))) (d2 mulD (d2 ixD (dVar 1) (dC (.int 0))) (d2 ixD (dVar 0) (dC (.int 1))))) (dCons (d2 mulD (d2 ixD (dVar 0) (dC (.int 1))) (d2 ixD (dVar 1) (dC (.int 1)))) dNil)))))
def m_plus : List D → M D := runB b_plus 2
def b_less : DEnv → M Fl :=
  (sSeq (sDrop (dCall 2 MW.m_check_two (dCons (dVar 0) (dCons (dVar 1) dNil)))) (sRet (dCall 2 MW.m_plain_of (dCons (d2 subD (d2 mulD (d2 ixD (dVar 0) (dC (.int 0))) (d2 ixD (dVar 1) (dC (.int 1)))) (d2 mulD (d2 ixD (dVar 1) (dC (.int 0))) (d2 ixD (dVar 0) (dC (.int 1))))) (dCons (d2 mulD (d2 ixD (dVar 0) (dC (.int 1))) (d2 ixD (dVar 1) (dC (.int 1)))) dNil)))))
def m_less : List D → M D := runB b_less 2
def b_times : DEnv → M Fl :=
  (sSeq (sDrop (dCall 2 MW.m_check_two (dCons (dVar 0) (dCons (dVar 1) dNil)))) (sRet (dCall 2 MW.m_plain_of (dCons (d2 mulD (d2 ixD (dVar 0) (dC (.int 0))) (d2 ixD (dVar 1) (dC (.int 0)))) (dCons (d2 mulD (d2 ixD (dVar 0) (dC (.int 1))) (d2 ixD (dVar 1) (dC (.int 1)))) dNil)))))
def m_times : List D → M D := runB b_times 2
def b_over : DEnv → M Fl :=
  (sSeq (sDrop (dCall 2 MW.m_check_two (dCons (dVar 0) (dCons (dVar 1) dNil)))) (sSeq (sIf (dB (d2 (eqD false) (dVar 1) (dC (.tup [(.int 0), (.int 1)])))) sNever sNil) (sRet (dCall 2 MW.m_plain_of (dCons (d2 mulD (d2 ixD (dVar 0) (dC (.int 0))) (d2 ixD (dVar 1) (dC (.int 1)))) (dCons (d2 mulD (d2 ixD (dVar 0) (dC (.int 1))) (d2 ixD (dVar 1) (dC (.int 0)))) dNil))))))
def m_over : List D → M D := runB b_over 2
def b_is_below : DEnv → M Fl :=
  (sSeq (sDrop (dCall 2 MW.m_check_two (dCons (dVar 0) (dCons (dVar 1) dNil)))) (sRet (d2 ltD (d2 mulD (d2 ixD (dVar 0) (dC (.int 0))) (d2 ixD (dVar 1) (dC (.int 1)))) (d2 mulD (d2 ixD (dVar 1) (dC (.int 0))) (d2 ixD (dVar 0) (dC (.int 1)))))))
def m_is_below : List D → M D := runB b_is_below 2
def w__law_f_1 : DEnv → Nat := wS 3 2
def l__law_f_1 : DEnv → M Fl :=
  (sPar false 2 3 (dCons (dVar 3) (dCons (d2 modD (dA intD (dCons (dVar 2) dNil)) (dVar 3)) dNil)))
def t__law_f_2 : DEnv → M Bool :=
  (dB (d2 gtD (dVar 3) (dC (.int 0))))
def b__law_f : DEnv → M Fl :=
  (sSeq (sAsg (pT [(pN false 0), (pN false 1)]) (dIte (dB (d2 ltD (dVar 1) (dC (.int 0)))) (dA tupO (dCons (d2 subD (dC (.int 0)) (dVar 0)) (dCons (d2 subD (dC (.int 0)) (dVar 1)) dNil))) (dA tupO (dCons (dVar 0) (dCons (dVar 1) dNil))))) (sSeq (sPar false 2 3 (dCons (dA absD (dCons (dVar 0) dNil)) (dCons (dVar 1) dNil))) (sSeq (fun ε => loopW (w__law_f_1 ε) t__law_f_2 l__law_f_1 [] ε) (sRet (dA tupO (dCons (d2 fdivD (dVar 0) (dVar 2)) (dCons (d2 fdivD (dVar 1) (dVar 2)) dNil)))))))
def m__law_f : List D → M D := runB b__law_f 4
def b__law_plus : DEnv → M Fl :=
  (sRet (dCall 2 MW.m__law_f (dCons (d2 addD (d2 mulD (d2 ixD (dVar 0) (dC (.int 0))) (d2 ixD (dVar 1) (dC (.int 1)))) (d2 mulD (d2 ixD (dVar 1) (dC (.int 0))) (d2 ixD (dVar 0) (dC (.int 1))))) (dCons (d2 mulD (d2 ixD (dVar 0) (dC (.int 1))) (d2 ixD (dVar 1) (dC (.int 1)))) dNil))))
def m__law_plus : List D → M D := runB b__law_plus 2
def b__law_minus : DEnv → M Fl :=
  (sRet (dCall 2 MW.m__law_f (dCons (d2 subD (d2 mulD (d2 ixD (dVar 0) (dC (.int 0))) (d2 ixD (dVar 1) (dC (.int 1)))) (d2 mulD (d2 ixD (dVar 1) (dC (.int 0))) (d2 ixD (dVar 0) (dC (.int 1))))) (dCons (d2 mulD (d2 ixD (dVar 0) (dC (.int 1))) (d2 ixD (dVar 1) (dC (.int 1)))) dNil))))
def m__law_minus : List D → M D := runB b__law_minus 2
def b__law_times : DEnv → M Fl :=
  (sRet (dCall 2 MW.m__law_f (dCons (d2 mulD (d2 ixD (dVar 0) (dC (.int 0))) (d2 ixD (dVar 1) (dC (.int 0)))) (dCons (d2 mulD (d2 ixD (dVar 0) (dC (.int 1))) (d2 ixD (dVar 1) (dC (.int 1)))) dNil))))
def m__law_times : List D → M D := runB b__law_times 2
def b__law_over : DEnv → M Fl :=
  (sRet (dCall 2 MW.m__law_f (dCons (d2 mulD (d2 ixD (dVar 0) (dC (.int 0))) (d2 ixD (dVar 1) (dC (.int 1)))) (dCons (d2 mulD (d2 ixD (dVar 0) (dC (.int 1))) (d2 ixD (dVar 1) (dC (.int 0)))) dNil))))
def m__law_over : List D → M D := runB b__law_over 2
def b__law_below : DEnv → M Fl :=
  (sRet (d2 ltD (d2 mulD (d2 ixD (dVar 0) (dC (.int 0))) (d2 ixD (dVar 1) (dC (.int 1)))) (d2 mulD (d2 ixD (dVar 1) (dC (.int 0))) (d2 ixD (dVar 0) (dC (.int 1))))))
def m__law_below : List D → M D := runB b__law_below 2
def b_is_above_nought : DEnv → M Fl :=
  (sRet (dAndV (dCall 1 MW.m_is_fraction_of (dCons (dVar 0) dNil)) (d2 gtD (d2 ixD (dVar 0) (dC (.int 0))) (dC (.int 0)))))
def m_is_above_nought : List D → M D := runB b_is_above_nought 1
def b_is_tap : DEnv → M Fl :=
  (sRet (dAndV (dCall 1 MW.m_is_pair (dCons (dVar 0) dNil)) (dAndV (dCall 1 MW.m_is_above_nought (dCons (d2 ixD (dVar 0) (dC (.int 0))) dNil)) (dCall 1 MW.m_is_fraction_of (dCons (d2 ixD (dVar 0) (dC (.int 1))) dNil)))))
def m_is_tap : List D → M D := runB b_is_tap 1
def e_is_board_of_1 : DEnv → M D :=
  (dCall 1 MW.m_is_tap (dCons (dVar 1) dNil))
def b_is_board_of : DEnv → M Fl :=
  (sRet (dAndV (dCall 3 MW.m_is_tuple_up_to (dCons (dVar 0) (dCons (dC (.int 1)) (dCons (dC (.int 8)) dNil)))) (dA allD (dCons (dLc (iSeq (dVar 0)) [1] (pN false 1) dYes e_is_board_of_1) dNil))))
def m_is_board_of : List D → M D := runB b_is_board_of 2
def b_is_board : DEnv → M Fl :=
  (sRet (dCall 1 MW.m_is_board_of (dCons (dVar 0) dNil)))
def m_is_board : List D → M D := runB b_is_board 1
def b__law_is_num : DEnv → M Fl :=
  (sRet (dAndV (d1 (isD "int") (dVar 0)) (dNotV (d1 (isD "bool") (dVar 0)))))
def m__law_is_num : List D → M D := runB b__law_is_num 1
def e__law_is_fraction_1 : DEnv → M D :=
  (dCall 1 MW.m__law_is_num (dCons (dVar 1) dNil))
def b__law_is_fraction : DEnv → M Fl :=
  (sRet (dAndV (d1 (isD "tuple") (dVar 0)) (dAndV (d2 (eqD false) (dA lenD (dCons (dVar 0) dNil)) (dC (.int 2))) (dAndV (d2 (inD true) (dC (.bl false)) (dLc (iSeq (dVar 0)) [1] (pN false 1) dYes e__law_is_fraction_1)) (dAndV (d2 gtD (d2 ixD (dVar 0) (dC (.int 1))) (dC (.int 0))) (d2 (eqD false) (dCall 2 MW.m__law_f (dCons (d2 ixD (dVar 0) (dC (.int 0))) (dCons (d2 ixD (dVar 0) (dC (.int 1))) dNil))) (dVar 0)))))))
def m__law_is_fraction : List D → M D := runB b__law_is_fraction 2
def e__law_is_board_1 : DEnv → M D :=
  (dCall 1 MW.m__law_is_fraction (dCons (dVar 2) dNil))
def l__law_is_board_2 : DEnv → M Fl :=
  (sIf (dOr (dNot (dB (d1 (isD "tuple") (dVar 1)))) (dOr (dB (d2 (eqD true) (dA lenD (dCons (dVar 1) dNil)) (dC (.int 2)))) (dOr (dB (d2 (inD false) (dC (.bl false)) (dLc (iSeq (dVar 1)) [2] (pN false 2) dYes e__law_is_board_1))) (dB (d2 ltD (d2 ixD (d2 ixD (dVar 1) (dC (.int 0))) (dC (.int 0))) (dC (.int 1))))))) (sRet (dC (.bl false))) sNil)
def b__law_is_board : DEnv → M Fl :=
  (sSeq (sIf (dOr (dNot (dB (d1 (isD "tuple") (dVar 0)))) (dNot (dB (dChain leD leD (dC (.int 1)) (dA lenD (dCons (dVar 0) dNil)) (dC (.int 8)))))) (sRet (dC (.bl false))) sNil) (sSeq (sFor (iSeq (dVar 0)) (pN false 1) [1] l__law_is_board_2) (sRet (dC (.bl true)))))
def m__law_is_board : List D → M D := runB b__law_is_board 3
def b_is_less : DEnv → M Fl :=
  (sRet (d2 ltD (d2 mulD (d2 ixD (dVar 0) (dC (.int 0))) (d2 ixD (dVar 1) (dC (.int 1)))) (d2 mulD (d2 ixD (dVar 1) (dC (.int 0))) (d2 ixD (dVar 0) (dC (.int 1))))))
def m_is_less : List D → M D := runB b_is_less 2
def b_check_board : DEnv → M Fl :=
  (sIf (dNot (dB (dCall 1 MW.m_is_board_of (dCons (dVar 0) dNil)))) sNever sNil)
def m_check_board : List D → M D := runB b_check_board 1
def b_is_from_nought : DEnv → M Fl :=
  (sRet (dAndV (dCall 1 MW.m_is_fraction_of (dCons (dVar 0) dNil)) (d2 geD (d2 ixD (dVar 0) (dC (.int 0))) (dC (.int 0)))))
def m_is_from_nought : List D → M D := runB b_is_from_nought 1
def b_is_flow : DEnv → M Fl :=
  (sRet (dAndV (dCall 1 MW.m_is_from_nought (dCons (dVar 1) dNil)) (dNotV (dCall 2 MW.m_is_less (dCons (d2 ixD (dVar 0) (dC (.int 0))) (dCons (dVar 1) dNil))))))
def m_is_flow : List D → M D := runB b_is_flow 2
def c_wrong_in_setting_1 : DEnv → M Bool :=
  (dNot (dB (dCall 2 MW.m_is_flow (dCons (dVar 3) (dCons (dVar 4) dNil)))))
def e_wrong_in_setting_2 : DEnv → M D :=
  (dVar 2)
def b_wrong_in_setting : DEnv → M Fl :=
  (sSeq (sIf (dNot (dB (dCall 2 MW.m_is_tuple_of (dCons (dVar 1) (dCons (dA lenD (dCons (dVar 0) dNil)) dNil))))) (sRet (dA lstO (dCons (dC .non) dNil))) sNil) (sRet (dSl (dLc (iO ezD (dCons (dVar 0) (dCons (dVar 1) dNil))) [2, 3, 4] (pT [(pN false 2), (pT [(pN false 3), (pN false 4)])]) c_wrong_in_setting_1 e_wrong_in_setting_2) oNone (oSome (dC (.int 1))))))
def m_wrong_in_setting : List D → M D := runB b_wrong_in_setting 5
def b_is_setting_of : DEnv → M Fl :=
  (sRet (d2 (eqD false) (dCall 2 MW.m_wrong_in_setting (dCons (dVar 0) (dCons (dVar 1) dNil))) (dA lstO dNil)))
def m_is_setting_of : List D → M D := runB b_is_setting_of 2
def e_shut_by_1 : DEnv → M D :=
  (dC (.tup [(.int 0), (.int 1)]))
def b_shut_by : DEnv → M Fl :=
  (sRet (dA tupleD (dCons (dLc (iSeq (dVar 0)) [1] (pN false 1) dYes e_shut_by_1) dNil)))
def m_shut_by : List D → M D := runB b_shut_by 2
end MW

end
section
namespace MW
open PySem PySem.Spec L2 DL
def isI : D → Bool
  | .int _ => true
  | _ => false
theorem whole_ok {d : D} (h : kn d = true) (p : Pool) : m_is_whole [d] p = .ok (.bl (isI d)) p := by
  simp [m_is_whole, b_is_whole, runB_ap, isD_int h, isD_bool h, asB]
  cases d <;> simp [isIntB, isBlB, isI]
theorem whole_int (i : Int) (p : Pool) : m_is_whole [.int i] p = .ok (.bl true) p := whole_ok rfl p
theorem from_ok {d : D} (h : kn d = true) (n : Int) (p : Pool) : m_is_from [d, .int n] p = .ok (.bl (match d with | .int i => decide (n ≤ i) | _ => false)) p := by
  simp [m_is_from, b_is_from, runB_ap, whole_ok h, asB]
  cases d <;> simp [isI, cmpD]
theorem upto_ok {d : D} (h : kn d = true) (lo hi : Int) (p : Pool) : m_is_tuple_up_to [d, .int lo, .int hi] p = .ok (.bl (match d with | .tup ds => decide (lo ≤ ds.length) && decide ((ds.length : Int) ≤ hi) | _ => false)) p := by
  simp [m_is_tuple_up_to, b_is_tuple_up_to, runB_ap, isD_tuple h, asB]
  cases d <;> simp [isTupB, cmpD, lenD, asB]
  rename_i ds
  by_cases c : lo ≤ (ds.length : Int) <;> simp [c]
theorem tupof_ok {d : D} (h : kn d = true) (n : Int) (p : Pool) : m_is_tuple_of [d, .int n] p = .ok (.bl (match d with | .tup ds => decide ((ds.length : Int) = n) | _ => false)) p := by
  simp [m_is_tuple_of, b_is_tuple_of, runB_ap, upto_ok h]
  cases d <;> simp
  rename_i ds
  rw [Bool.eq_iff_iff]
  simp
  omega
theorem pair_ok {d : D} (h : kn d = true) (p : Pool) : m_is_pair [d] p = .ok (.bl (match d with | .tup [_, _] => true | _ => false)) p := by
  simp [m_is_pair, b_is_pair, runB_ap, tupof_ok h]
  cases d <;> simp
  rename_i ds
  match ds with
  | [] => simp
  | [_] => simp
  | [_, _] => simp
  | _ :: _ :: _ :: _ => simp; omega
/-- a fraction in its plain form -/
def isF : D → Bool
  | .tup [.int a, .int b] => decide (1 ≤ b) && decide (Nat.gcd a.natAbs b.natAbs = 1)
  | _ => false
/-- known, and so are its items -/
def kn2 : D → Bool
  | .tup ds => ds.all kn
  | d => kn d
theorem isfrac_ok {d : D} (h : kn2 d = true) (p : Pool) : m_is_fraction_of [d] p = .ok (.bl (isF d)) p := by
  have hk : kn d = true := by cases d <;> first | rfl | exact h
  simp [m_is_fraction_of, b_is_fraction_of, runB_ap, pair_ok hk, asB]
  cases d <;> simp [isF]
  rename_i ds
  match ds with
  | [] => simp [isF]
  | [_] => simp [isF]
  | _ :: _ :: _ :: _ => simp [isF]
  | [x, y] =>
    simp only [kn2, List.all_cons, List.all_nil, Bool.and_true, Bool.and_eq_true] at h
    simp [ixD, atI, ixN, whole_ok h.1, from_ok h.2, asB]
    cases x <;> simp [isI, isF]
    cases y <;> simp [isF]
    rename_i a b
    by_cases c : b < 1
    · simp [c, show ¬ 1 ≤ b by omega]
    · simp [c, show 1 ≤ b by omega, gcdD, eqD, sh]
      omega
end MW
namespace MW
open PySem PySem.Spec L2 DL
/-! ### fractions -/
/-- a fraction as the program holds it -/
def frD (q : Rat) : D := .tup [.int q.num, .int q.den]
theorem isF_frD (q : Rat) : isF (frD q) = true := by
  have h := q.den_nz
  have r : Nat.gcd q.num.natAbs q.den = 1 := q.reduced
  simp only [frD, isF, Bool.and_eq_true, decide_eq_true_eq, Int.natAbs_natCast]
  exact ⟨by omega, r⟩
theorem frD_of {a b : Int} (h : isF (.tup [.int a, .int b]) = true) : ∃ q : Rat, .tup [.int a, .int b] = frD q := by
  simp only [isF, Bool.and_eq_true, decide_eq_true_eq] at h
  refine ⟨⟨a, b.natAbs, by omega, h.2⟩, ?_⟩
  simp only [frD]
  rw [Int.natAbs_of_nonneg (by omega)]
theorem frD_inj {q r : Rat} (h : frD q = frD r) : q = r := by
  simp only [frD, D.tup.injEq, List.cons.injEq, D.int.injEq, and_true] at h
  exact Rat.ext h.1 (by omega)
theorem kn2_frD (q : Rat) : kn2 (frD q) = true := rfl
theorem sh_frD (q : Rat) : sh 20 (frD q) = true := rfl
theorem free_frD (q : Rat) : D.free (frD q) = true := rfl
theorem eqv_frD (q r : Rat) : eqv (frD q) (frD r) = decide (q = r) := by
  simp only [frD, eqv_tup, eqvs_cons, eqv_int, eqvs_nil, Bool.and_true]
  rw [Bool.eq_iff_iff]
  simp only [Bool.and_eq_true, decide_eq_true_eq]
  constructor
  · rintro ⟨h1, h2⟩; exact Rat.ext h1 (by omega)
  · rintro rfl; exact ⟨rfl, rfl⟩
theorem gcd_pos_of {a b : Int} (hb : b ≠ 0) : 0 < Nat.gcd a.natAbs b.natAbs := Nat.gcd_pos_of_pos_right _ (by omega)
theorem divInt_num' (a b : Int) (hb : b ≠ 0) : (Rat.divInt a b).num = a / (b.sign * (Nat.gcd a.natAbs b.natAbs : Nat)) := by
  rw [Rat.num_divInt]
  have hg : ((Int.gcd b a : Nat) : Int) = (Nat.gcd a.natAbs b.natAbs : Nat) := by
    show ((Nat.gcd b.natAbs a.natAbs : Nat) : Int) = _
    rw [Nat.gcd_comm]
  rw [hg]
  have hd : ((Nat.gcd a.natAbs b.natAbs : Nat) : Int) ∣ a := Int.natAbs_dvd_natAbs.mp (by rw [Int.natAbs_natCast]; exact Nat.gcd_dvd_left _ _)
  rcases Int.lt_or_gt_of_ne hb with h | h
  · rw [Int.sign_eq_neg_one_of_neg h, Int.neg_one_mul, Int.neg_one_mul, Int.ediv_neg, Int.neg_ediv_of_dvd hd]
  · rw [Int.sign_eq_one_of_pos h, Int.one_mul, Int.one_mul]
theorem divInt_den' (a b : Int) (hb : b ≠ 0) : ((Rat.divInt a b).den : Int) = b / (b.sign * (Nat.gcd a.natAbs b.natAbs : Nat)) := by
  rw [Rat.den_divInt, if_neg hb]
  have hg : (Int.gcd b a : Nat) = (Nat.gcd a.natAbs b.natAbs : Nat) := by
    show Nat.gcd b.natAbs a.natAbs = _
    rw [Nat.gcd_comm]
  rw [hg]
  have hd : ((Nat.gcd a.natAbs b.natAbs : Nat) : Int) ∣ b := Int.natAbs_dvd_natAbs.mp (by rw [Int.natAbs_natCast]; exact Nat.gcd_dvd_right _ _)
  rw [Int.natCast_ediv]
  rcases Int.lt_or_gt_of_ne hb with h | h
  · rw [Int.sign_eq_neg_one_of_neg h, Int.neg_one_mul, Int.ediv_neg, Int.ofNat_natAbs_of_nonpos (by omega), Int.neg_ediv_of_dvd hd]
  · rw [Int.sign_eq_one_of_pos h, Int.one_mul, Int.natAbs_of_nonneg (by omega)]
theorem fdivD_ex {a c : Int} (hc : c ≠ 0) (hs : c.natAbs < 2 ^ 9000) (hd : c ∣ a) : fdivD (.int a) (.int c) = some (.int (a / c)) := by
  rw [fdivD_of hc hs, Int.fdiv_eq_ediv_of_dvd hd]
theorem plainof_ok {a b : Int} (hb : b ≠ 0) (hs : b.natAbs < 2 ^ 9000) (p : Pool) : m_plain_of [.int a, .int b] p = .ok (frD (Rat.divInt a b)) p := by
  have hg := gcd_pos_of (a := a) hb
  have hgs : Nat.gcd a.natAbs b.natAbs < 2 ^ 9000 := Nat.lt_of_le_of_lt (Nat.gcd_le_right _ (by omega)) hs
  have d1 : ((Nat.gcd a.natAbs b.natAbs : Nat) : Int) ∣ a := Int.natAbs_dvd_natAbs.mp (by rw [Int.natAbs_natCast]; exact Nat.gcd_dvd_left _ _)
  have d2 : ((Nat.gcd a.natAbs b.natAbs : Nat) : Int) ∣ b := Int.natAbs_dvd_natAbs.mp (by rw [Int.natAbs_natCast]; exact Nat.gcd_dvd_right _ _)
  have key : ∀ c : Int, c = b.sign * (Nat.gcd a.natAbs b.natAbs : Nat) → fdivD (.int a) (.int c) = some (.int (Rat.divInt a b).num) ∧ fdivD (.int b) (.int c) = some (.int (Rat.divInt a b).den) := by
    intro c e
    have cases : c = (Nat.gcd a.natAbs b.natAbs : Nat) ∨ c = -(Nat.gcd a.natAbs b.natAbs : Nat) := by
      rcases Int.lt_or_gt_of_ne hb with h | h
      · rw [Int.sign_eq_neg_one_of_neg h] at e; right; omega
      · rw [Int.sign_eq_one_of_pos h] at e; left; omega
    have hc : c ≠ 0 := by omega
    have hcs : c.natAbs < 2 ^ 9000 := by
      have : c.natAbs = Nat.gcd a.natAbs b.natAbs := by omega
      rw [this]; exact hgs
    have e1 : c ∣ a := by
      rcases cases with z | z <;> rw [z]
      · exact d1
      · exact Int.neg_dvd.mpr d1
    have e2 : c ∣ b := by
      rcases cases with z | z <;> rw [z]
      · exact d2
      · exact Int.neg_dvd.mpr d2
    rw [fdivD_ex hc hcs e1, fdivD_ex hc hcs e2, divInt_num' a b hb, divInt_den' a b hb, ← e]
    exact ⟨rfl, rfl⟩
  rcases Int.lt_or_gt_of_ne hb with h | h
  · obtain ⟨k1, k2⟩ := key (-(Nat.gcd a.natAbs b.natAbs : Nat)) (by rw [Int.sign_eq_neg_one_of_neg h]; omega)
    simp [m_plain_of, b_plain_of, runB_ap, cmpD, asB, gcdD, show ¬ 0 < b by omega, negD, k1, k2, tupO, frD]
  · obtain ⟨k1, k2⟩ := key (Nat.gcd a.natAbs b.natAbs : Nat) (by rw [Int.sign_eq_one_of_pos h]; omega)
    simp [m_plain_of, b_plain_of, runB_ap, cmpD, asB, gcdD, show 0 < b by omega, k1, k2, tupO, frD]
theorem plain_ok {a b : Int} (hb : b ≠ 0) (hs : b.natAbs < 2 ^ 9000) (p : Pool) : m_plain [.int a, .int b] p = .ok (frD (Rat.divInt a b)) p := by
  simp [m_plain, b_plain, runB_ap, whole_int, asB, plainof_ok hb hs, sh, hb]
theorem isfraction_ok {d : D} (h : kn2 d = true) (p : Pool) : m_is_fraction [d] p = .ok (.bl (isF d)) p := by
  simp [m_is_fraction, b_is_fraction, runB_ap, isfrac_ok h]
/-- sizes -/
theorem num_le (a b : Int) (hb : b ≠ 0) : (Rat.divInt a b).num.natAbs ≤ a.natAbs := by
  rw [divInt_num' a b hb]; exact Int.natAbs_ediv_le_natAbs _ _
theorem den_le (a b : Int) (hb : b ≠ 0) : (Rat.divInt a b).den ≤ b.natAbs := by
  rw [Rat.den_divInt, if_neg hb]; exact Nat.div_le_self _ _
theorem divInt_cross (a b : Int) (hb : b ≠ 0) : (Rat.divInt a b).num * b = a * (Rat.divInt a b).den := by
  have h : Rat.divInt (Rat.divInt a b).num (Rat.divInt a b).den = Rat.divInt a b := Rat.num_divInt_den _
  have hz : ((Rat.divInt a b).den : Int) ≠ 0 := by have := (Rat.divInt a b).den_nz; omega
  exact (Rat.divInt_eq_divInt_iff hz hb).mp h
end MW

end
section
namespace MW
open PySem PySem.Spec L2 DL
/-! ### sizes -/
def szR (n : Nat) (q : Rat) : Prop := q.num.natAbs < 2 ^ n ∧ q.den < 2 ^ n
theorem szR.mono {m n : Nat} {q : Rat} (h : szR m q) (hm : m ≤ n) : szR n q := ⟨Nat.lt_of_lt_of_le h.1 (Nat.pow_le_pow_right (by decide) hm), Nat.lt_of_lt_of_le h.2 (Nat.pow_le_pow_right (by decide) hm)⟩
theorem pow_le_400k {n : Nat} (h : n ≤ 400000) : 2 ^ n ≤ 2 ^ 400000 := Nat.pow_le_pow_right (by decide) h
theorem mulD_sz {i j : Int} {n : Nat} (hn : n ≤ 4000) (hi : i.natAbs < 2 ^ n) (hj : j.natAbs < 2 ^ n) : mulD (.int i) (.int j) = some (.int (i * j)) :=
  mulD_of (cmul_b (Nat.lt_of_lt_of_le hi (pow_le_400k (by omega))) (Nat.lt_of_lt_of_le hj (pow_le_400k (by omega))))
theorem mul_lt_pow {i j m n : Nat} (hi : i < 2 ^ m) (hj : j < 2 ^ n) : i * j < 2 ^ (m + n) := by
  rw [Nat.pow_add]
  exact Nat.mul_lt_mul'' hi hj
theorem szR_divInt {a b : Int} {n : Nat} (hb : b ≠ 0) (ha : a.natAbs < 2 ^ n) (hbn : b.natAbs < 2 ^ n) : szR n (Rat.divInt a b) :=
  ⟨Nat.lt_of_le_of_lt (num_le a b hb) ha, Nat.lt_of_le_of_lt (den_le a b hb) hbn⟩
theorem den_ne (q : Rat) : (q.den : Int) ≠ 0 := by have := q.den_nz; omega
theorem add_eq (a b : Rat) : Rat.divInt (a.num * b.den + b.num * a.den) (a.den * b.den) = a + b := by
  have h := Rat.divInt_add_divInt a.num b.num (den_ne a) (den_ne b)
  rw [Rat.num_divInt_den, Rat.num_divInt_den] at h
  exact h.symm
theorem sub_eq (a b : Rat) : Rat.divInt (a.num * b.den - b.num * a.den) (a.den * b.den) = a - b := by
  have h := Rat.divInt_sub_divInt a.num b.num (den_ne a) (den_ne b)
  rw [Rat.num_divInt_den, Rat.num_divInt_den] at h
  exact h.symm
theorem mul_eq (a b : Rat) : Rat.divInt (a.num * b.num) (a.den * b.den) = a * b := by
  have h := Rat.divInt_mul_divInt a.num b.num (d₁ := a.den) (d₂ := b.den)
  rw [Rat.num_divInt_den, Rat.num_divInt_den] at h
  exact h.symm
theorem div_eq (a b : Rat) : Rat.divInt (a.num * b.den) (a.den * b.num) = a / b := by
  rw [Rat.div_def, Rat.inv_def]
  have h := Rat.divInt_mul_divInt a.num b.den (d₁ := a.den) (d₂ := b.num)
  rw [Rat.num_divInt_den] at h
  exact h.symm
theorem add_natAbs {i j : Int} {n : Nat} (hi : i.natAbs < 2 ^ n) (hj : j.natAbs < 2 ^ n) : (i + j).natAbs < 2 ^ (n + 1) := by
  have h := Int.natAbs_add_le i j
  rw [Nat.pow_succ]
  omega
theorem sub_natAbs {i j : Int} {n : Nat} (hi : i.natAbs < 2 ^ n) (hj : j.natAbs < 2 ^ n) : (i - j).natAbs < 2 ^ (n + 1) := by
  have h := Int.natAbs_sub_le i j
  rw [Nat.pow_succ]
  omega
theorem mul_natAbs {i j : Int} {m n : Nat} (hi : i.natAbs < 2 ^ m) (hj : j.natAbs < 2 ^ n) : (i * j).natAbs < 2 ^ (m + n) := by
  rw [Int.natAbs_mul]; exact mul_lt_pow hi hj
theorem den_abs {q : Rat} {n : Nat} (h : szR n q) : ((q.den : Nat) : Int).natAbs < 2 ^ n := by rw [Int.natAbs_natCast]; exact h.2
theorem szR_add {a b : Rat} {m n : Nat} (ha : szR m a) (hb : szR n b) : szR (m + n + 1) (a + b) := by
  rw [← add_eq]
  refine szR_divInt (Int.mul_ne_zero (den_ne a) (den_ne b)) (add_natAbs (mul_natAbs ha.1 (den_abs hb)) (by rw [Nat.add_comm]; exact mul_natAbs hb.1 (den_abs ha))) ?_
  exact Nat.lt_of_lt_of_le (mul_natAbs (den_abs ha) (den_abs hb)) (Nat.pow_le_pow_right (by decide) (by omega))
theorem szR_sub {a b : Rat} {m n : Nat} (ha : szR m a) (hb : szR n b) : szR (m + n + 1) (a - b) := by
  rw [← sub_eq]
  refine szR_divInt (Int.mul_ne_zero (den_ne a) (den_ne b)) (sub_natAbs (mul_natAbs ha.1 (den_abs hb)) (by rw [Nat.add_comm]; exact mul_natAbs hb.1 (den_abs ha))) ?_
  exact Nat.lt_of_lt_of_le (mul_natAbs (den_abs ha) (den_abs hb)) (Nat.pow_le_pow_right (by decide) (by omega))
theorem szR_mul {a b : Rat} {m n : Nat} (ha : szR m a) (hb : szR n b) : szR (m + n) (a * b) := by
  rw [← mul_eq]
  exact szR_divInt (Int.mul_ne_zero (den_ne a) (den_ne b)) (mul_natAbs ha.1 hb.1) (mul_natAbs (den_abs ha) (den_abs hb))
theorem num_ne {b : Rat} (h : b ≠ 0) : b.num ≠ 0 := fun z => h (Rat.num_eq_zero.mp z)
theorem szR_div {a b : Rat} {m n : Nat} (ha : szR m a) (hb : szR n b) (h0 : b ≠ 0) : szR (m + n) (a / b) := by
  rw [← div_eq]
  exact szR_divInt (Int.mul_ne_zero (den_ne a) (num_ne h0)) (mul_natAbs ha.1 (den_abs hb)) (mul_natAbs (den_abs ha) hb.1)
theorem wt_frD {q : Rat} (h : szR 1500 q) : wt (frD q) = 1011 := by
  have e : (2 : Nat) ^ 1500 < 10 ^ 500 := by decide +kernel
  simp only [frD, wt, wts, Int.natAbs_natCast, if_pos (Nat.lt_trans h.1 e), if_pos (Nat.lt_trans h.2 e)]
/-! ### the program's fractions -/
theorem frD_zero : frD 0 = .tup [.int 0, .int 1] := rfl
theorem frD_one : frD 1 = .tup [.int 1, .int 1] := rfl
theorem check_ok (q : Rat) (p : Pool) : m_check_fraction [frD q] p = .ok .non p := by
  have h := isfrac_ok (kn2_frD q) p
  rw [isF_frD] at h
  simp [m_check_fraction, b_check_fraction, runB_ap, h]
theorem check2_ok (a b : Rat) (p : Pool) : m_check_two [frD a, frD b] p = .ok .non p := by
  simp [m_check_two, b_check_two, runB_ap, check_ok]
@[simp] theorem ix0_frD (q : Rat) : ixD (frD q) (.int 0) = some (.int q.num) := ixT0 _ _
@[simp] theorem ix1_frD (q : Rat) : ixD (frD q) (.int 1) = some (.int q.den) := ixT1 _ _ _
@[simp] theorem sh_frD' (n : Nat) (q : Rat) : sh (n + 1) (frD q) = true := by simp [frD]
@[simp] theorem eqv_frD' (q r : Rat) : eqv (frD q) (frD r) = decide (q = r) := eqv_frD q r
section
variable {a b : Rat} {n : Nat}
theorem bot_ok (ha : szR n a) (hb : szR n b) (hn : n ≤ 4000) : ((a.den : Int) * (b.den : Int)).natAbs < 2 ^ 9000 := Nat.lt_of_lt_of_le (mul_natAbs (den_abs ha) (den_abs hb)) (Nat.pow_le_pow_right (by decide) (by omega))
theorem bot_ok2 (ha : szR n a) (hb : szR n b) (hn : n ≤ 4000) : ((a.den : Int) * b.num).natAbs < 2 ^ 9000 := Nat.lt_of_lt_of_le (mul_natAbs (den_abs ha) hb.1) (Nat.pow_le_pow_right (by decide) (by omega))
theorem plus_ok (ha : szR n a) (hb : szR n b) (hn : n ≤ 4000) (p : Pool) : m_plus [frD a, frD b] p = .ok (frD (a + b)) p := by
  simp [m_plus, b_plus, runB_ap, check2_ok, mulD_sz hn ha.1 (den_abs hb), mulD_sz hn hb.1 (den_abs ha), mulD_sz hn (den_abs ha) (den_abs hb), plainof_ok (Int.mul_ne_zero (den_ne a) (den_ne b)) (bot_ok ha hb hn), add_eq]
theorem less_ok (ha : szR n a) (hb : szR n b) (hn : n ≤ 4000) (p : Pool) : m_less [frD a, frD b] p = .ok (frD (a - b)) p := by
  simp [m_less, b_less, runB_ap, check2_ok, mulD_sz hn ha.1 (den_abs hb), mulD_sz hn hb.1 (den_abs ha), mulD_sz hn (den_abs ha) (den_abs hb), plainof_ok (Int.mul_ne_zero (den_ne a) (den_ne b)) (bot_ok ha hb hn), sub_eq]
theorem times_ok (ha : szR n a) (hb : szR n b) (hn : n ≤ 4000) (p : Pool) : m_times [frD a, frD b] p = .ok (frD (a * b)) p := by
  simp [m_times, b_times, runB_ap, check2_ok, mulD_sz hn ha.1 hb.1, mulD_sz hn (den_abs ha) (den_abs hb), plainof_ok (Int.mul_ne_zero (den_ne a) (den_ne b)) (bot_ok ha hb hn), mul_eq]
theorem over_ok (ha : szR n a) (hb : szR n b) (hn : n ≤ 4000) (h0 : b ≠ 0) (p : Pool) : m_over [frD a, frD b] p = .ok (frD (a / b)) p := by
  have z : eqv (frD b) (.tup [.int 0, .int 1]) = false := by rw [← frD_zero, eqv_frD]; simpa using h0
  simp [m_over, b_over, runB_ap, check2_ok, z, mulD_sz hn ha.1 (den_abs hb), mulD_sz hn (den_abs ha) hb.1, plainof_ok (Int.mul_ne_zero (den_ne a) (num_ne h0)) (bot_ok2 ha hb hn), div_eq]
theorem below_ok (ha : szR n a) (hb : szR n b) (hn : n ≤ 4000) (p : Pool) : m_is_below [frD a, frD b] p = .ok (.bl (decide (a < b))) p := by
  simp [m_is_below, b_is_below, runB_ap, check2_ok, mulD_sz hn ha.1 (den_abs hb), mulD_sz hn hb.1 (den_abs ha), Rat.lt_iff]
/-! ### the laws' own -/
theorem loop_gcd (A B : Option D) (p : Pool) : ∀ (n x y : Nat), y < n → loopW n t__law_f_2 l__law_f_1 [] [A, B, some (.int x), some (.int y)] p = .ok (.nx [A, B, some (.int (Nat.gcd x y)), some (.int 0)]) p
  | 0, x, y, h => by omega
  | n + 1, x, y, h => by
    rw [loopW_succ]
    by_cases c : y = 0
    · subst c; simp [t__law_f_2]
    · have hy : ((y : Nat) : Int) ≠ 0 := by omega
      have e : (x : Int).fmod (y : Int) = ((x % y : Nat) : Int) := by rw [Int.fmod_eq_emod_of_nonneg _ (by omega)]; omega
      have ih := loop_gcd A B p n y (x % y) (by have := Nat.mod_lt x (show y > 0 by omega); omega)
      have hy' : 0 < (y : Int) := by omega
      simp [t__law_f_2, l__law_f_1, hy', hy, e, show ¬ y = 0 from c, Nat.pos_of_ne_zero c] at ih ⊢
      rw [ih, Nat.gcd_comm y (x % y), ← Nat.gcd_rec y x, Nat.gcd_comm y x]
theorem lawf_pos {a b : Int} (hb : 0 < b) (hs : b.natAbs < 2 ^ 9000) : ∀ p, (b__law_f [some (.int a), some (.int b), none, none] p).run = .ok (frD (Rat.divInt a b)) p := by
  intro p
  have hb' : ¬ b < 0 := by omega
  have e1 : (if a < 0 then -a else a) = (a.natAbs : Int) := by split <;> omega
  have e2 : b = (b.natAbs : Int) := by omega
  have hgp := gcd_pos_of (a := a) (b := b) (by omega)
  have hgs : ((Nat.gcd a.natAbs b.natAbs : Nat) : Int).natAbs < 2 ^ 9000 := by rw [Int.natAbs_natCast]; exact Nat.lt_of_le_of_lt (Nat.gcd_le_right _ (by omega)) hs
  have l := loop_gcd (some (.int a)) (some (.int b)) p (b.natAbs + 2) a.natAbs b.natAbs (by omega)
  rw [← e2] at l
  have f1 : ∀ x : Int, fdivD (.int x) (.int (Nat.gcd a.natAbs b.natAbs : Nat)) = some (.int (x / (Nat.gcd a.natAbs b.natAbs : Nat))) := fun x => by
    rw [fdivD_of (by omega) hgs, Int.fdiv_eq_ediv_of_nonneg _ (by omega)]
  have d1 := divInt_num' a b (by omega)
  have d2 := divInt_den' a b (by omega)
  rw [Int.sign_eq_one_of_pos hb, Int.one_mul] at d1 d2
  simp [b__law_f, hb', tupO_of, e1, w__law_f_1, wS, l, f1, frD, d1, d2]
theorem lawf_ok {a b : Int} (hb : b ≠ 0) (hs : b.natAbs < 2 ^ 9000) (p : Pool) : m__law_f [.int a, .int b] p = .ok (frD (Rat.divInt a b)) p := by
  by_cases h : 0 < b
  · simp only [m__law_f, runB_ap]
    exact lawf_pos h hs p
  · have hb' : b < 0 := by omega
    have e : Rat.divInt a b = Rat.divInt (-a) (-b) := by rw [← Rat.divInt_mul_right (a := -1) (by decide) (n := a) (d := b)]; congr 1 <;> omega
    have e0 := lawf_pos (a := -a) (b := -b) (by omega) (by omega) p
    rw [e, ← e0]
    simp [m__law_f, runB_ap, b__law_f, hb', show ¬ 0 < b by omega, tupO_of]
theorem lplus_ok (ha : szR n a) (hb : szR n b) (hn : n ≤ 4000) (p : Pool) : m__law_plus [frD a, frD b] p = .ok (frD (a + b)) p := by
  simp [m__law_plus, b__law_plus, runB_ap, mulD_sz hn ha.1 (den_abs hb), mulD_sz hn hb.1 (den_abs ha), mulD_sz hn (den_abs ha) (den_abs hb), lawf_ok (Int.mul_ne_zero (den_ne a) (den_ne b)) (bot_ok ha hb hn), add_eq]
theorem lminus_ok (ha : szR n a) (hb : szR n b) (hn : n ≤ 4000) (p : Pool) : m__law_minus [frD a, frD b] p = .ok (frD (a - b)) p := by
  simp [m__law_minus, b__law_minus, runB_ap, mulD_sz hn ha.1 (den_abs hb), mulD_sz hn hb.1 (den_abs ha), mulD_sz hn (den_abs ha) (den_abs hb), lawf_ok (Int.mul_ne_zero (den_ne a) (den_ne b)) (bot_ok ha hb hn), sub_eq]
theorem ltimes_ok (ha : szR n a) (hb : szR n b) (hn : n ≤ 4000) (p : Pool) : m__law_times [frD a, frD b] p = .ok (frD (a * b)) p := by
  simp [m__law_times, b__law_times, runB_ap, mulD_sz hn ha.1 hb.1, mulD_sz hn (den_abs ha) (den_abs hb), lawf_ok (Int.mul_ne_zero (den_ne a) (den_ne b)) (bot_ok ha hb hn), mul_eq]
theorem lover_ok (ha : szR n a) (hb : szR n b) (hn : n ≤ 4000) (h0 : b ≠ 0) (p : Pool) : m__law_over [frD a, frD b] p = .ok (frD (a / b)) p := by
  simp [m__law_over, b__law_over, runB_ap, mulD_sz hn ha.1 (den_abs hb), mulD_sz hn (den_abs ha) hb.1, lawf_ok (Int.mul_ne_zero (den_ne a) (num_ne h0)) (bot_ok2 ha hb hn), div_eq]
theorem lbelow_ok (ha : szR n a) (hb : szR n b) (hn : n ≤ 4000) (p : Pool) : m__law_below [frD a, frD b] p = .ok (.bl (decide (a < b))) p := by
  simp [m__law_below, b__law_below, runB_ap, mulD_sz hn ha.1 (den_abs hb), mulD_sz hn hb.1 (den_abs ha), Rat.lt_iff]
end
end MW

end
section
namespace DL
open PySem PySem.Spec L2
/-- a loop that hands r back at the first item that is not right -/
theorem loopF_until {t : Pat} {b : DEnv → M Fl} {ks : List Nat} {ε : DEnv} {p : Pool} (c : D → Bool) (r : D) : ∀ (ds : List D), (∀ d ∈ ds, (c d = true → ∃ ε1 ε2, t d ε = some ε1 ∧ b ε1 p = .ok (.nx ε2) p ∧ fg ks ε2 = ε) ∧ (c d = false → ∃ ε1, t d ε = some ε1 ∧ b ε1 p = .ok (.rt r) p)) →
    loopF t b ks ds ε p = if ds.all c then .ok (.nx ε) p else .ok (.rt r) p
  | [], _ => rfl
  | d :: ds, h => by
    obtain ⟨h1, h2⟩ := h d List.mem_cons_self
    have ih := loopF_until c r ds fun d hd => h d (List.mem_cons_of_mem _ hd)
    rw [loopF_cons, List.all_cons]
    cases e : c d with
    | true =>
      obtain ⟨ε1, ε2, a1, a2, a3⟩ := h1 e
      rw [a1, ofO_some, ok_thn, a2, turn_nx, a3, ih, Bool.true_and]
    | false =>
      obtain ⟨ε1, a1, a2⟩ := h2 e
      rw [a1, ofO_some, ok_thn, a2, turn_rt, Bool.false_and]
      rfl
theorem asBs_map (f : D → Bool) : ∀ ds : List D, asBs (ds.map fun d => D.bl (f d)) = some (ds.map f)
  | [] => rfl
  | d :: ds => by
    show (match asB (.bl (f d)), asBs (ds.map fun d => D.bl (f d)) with | some b, some bs => some (b :: bs) | _, _ => none) = _
    rw [asBs_map f ds]; rfl
@[simp] theorem allD_map (f : D → Bool) (ds : List D) : allD [.lst (ds.map fun d => D.bl (f d))] = some (.bl (ds.all f)) := by
  show (asBs (ds.map fun d => D.bl (f d))).map _ = _
  rw [asBs_map]
  simp
/-- false is among the answers -/
theorem anyF_map (f : D → Bool) (ds : List D) : ((ds.map fun d => D.bl (f d)).any fun z => eqv z (.bl false)) = !ds.all f := by
  induction ds with
  | nil => rfl
  | cons d ds ih => rw [List.map_cons, List.any_cons, ih, List.all_cons, eqv_bl]; cases f d <;> simp
theorem sh_bls (f : D → Bool) (ds : List D) : ((ds.map fun d => D.bl (f d)).all (sh 19)) = true := by
  rw [List.all_eq_true]
  intro d hd
  obtain ⟨x, _, rfl⟩ := List.mem_map.mp hd
  exact sh_b _ _
theorem inF_map (neg : Bool) (f : D → Bool) (ds : List D) : inD neg (.bl false) (.lst (ds.map fun d => D.bl (f d))) = some (.bl (if neg then ds.all f else !ds.all f)) := by
  have hs : (sh 20 (.bl false) && sh 20 (.lst (ds.map fun d => D.bl (f d)))) = true := by
    rw [sh_b, sh_l, sh_bls]; rfl
  show (if _ then _ else _) = _
  rw [if_pos hs, anyF_map]
  cases neg <;> simp
end DL
namespace MW
open PySem PySem.Spec L2 DL
/-! ### values of known kinds and fair sizes -/
mutual
def fair : D → Bool
  | .int i => decide (i.natAbs < 2 ^ 200)
  | .tup ds => fairs ds
  | .rol _ => false
  | .pool => false
  | .fn _ => false
  | _ => true
def fairs : List D → Bool
  | [] => true
  | d :: ds => fair d && fairs ds
end
theorem fairs_all : ∀ ds : List D, fairs ds = ds.all fair
  | [] => by simp only [fairs, List.all_nil]
  | d :: ds => by simp only [fairs, List.all_cons, fairs_all ds]
theorem fair_tup (ds : List D) : fair (.tup ds) = ds.all fair := by simp only [fair, fairs_all]
theorem fair_kn {d : D} (h : fair d = true) : kn d = true := by
  cases d <;> first | rfl | (simp only [fair] at h; cases h)
theorem fair_kn2 {d : D} (h : fair d = true) : kn2 d = true := by
  cases d with
  | tup ds =>
    rw [fair_tup, List.all_eq_true] at h
    show ds.all kn = true
    rw [List.all_eq_true]
    exact fun x hx => fair_kn (h x hx)
  | _ => exact fair_kn h
theorem fair_frD {q : Rat} (h : szR 200 q) : fair (frD q) = true := by
  simp only [frD, fair_tup, List.all_cons, List.all_nil, fair, Int.natAbs_natCast]
  simp [h.1, h.2]
/-- more than nought -/
def posF : D → Bool
  | .tup (.int a :: _) => decide (0 < a)
  | _ => false
theorem above_ok {d : D} (h : fair d = true) (p : Pool) : m_is_above_nought [d] p = .ok (.bl (isF d && posF d)) p := by
  simp [m_is_above_nought, b_is_above_nought, runB_ap, isfrac_ok (fair_kn2 h)]
  cases e : isF d with
  | false => simp
  | true =>
    unfold isF at e
    split at e
    · simp [posF]
    · cases e
def isTap : D → Bool
  | .tup [x, y] => isF x && posF x && isF y
  | _ => false
theorem tap_ok {d : D} (h : fair d = true) (p : Pool) : m_is_tap [d] p = .ok (.bl (isTap d)) p := by
  simp [m_is_tap, b_is_tap, runB_ap, pair_ok (fair_kn h)]
  cases d <;> simp [isTap]
  rename_i ds
  match ds with
  | [] => simp [isTap]
  | [_] => simp [isTap]
  | _ :: _ :: _ :: _ => simp [isTap]
  | [x, y] =>
    rw [fair_tup] at h
    simp only [List.all_cons, List.all_nil, Bool.and_true, Bool.and_eq_true] at h
    simp [above_ok h.1, isfrac_ok (fair_kn2 h.2), isTap]
    cases e : isF x <;> cases e' : posF x <;> simp
def isBd : D → Bool
  | .tup ds => decide (1 ≤ ds.length) && decide (ds.length ≤ 8) && ds.all isTap
  | _ => false
theorem boardof_ok {d : D} (h : fair d = true) (p : Pool) : m_is_board_of [d] p = .ok (.bl (isBd d)) p := by
  cases d with
  | tup ds =>
    rw [fair_tup, List.all_eq_true] at h
    have up := upto_ok (d := .tup ds) rfl 1 8 p
    by_cases hl : 1 ≤ ds.length ∧ ds.length ≤ 8
    · have l : lcM (pN false 1) dYes e_is_board_of_1 ds [some (.tup ds), none] p = .ok (ds.map fun d => D.bl (isTap d)) p := lcM_all _ ds fun d hd => ⟨_, rfl, by simp [e_is_board_of_1, tap_ok (h d hd)]⟩
      have h1 : (1 : Int) ≤ ds.length := by omega
      have h2 : (ds.length : Int) ≤ 8 := by omega
      have h3 : ds.length ≤ 10000 := by omega
      simp [m_is_board_of, b_is_board_of, runB_ap, up, h1, h2, h3, l, isBd, hl]
    · have e : (decide ((1 : Int) ≤ ds.length) && decide ((ds.length : Int) ≤ 8)) = false := by
        rw [Bool.and_eq_false_iff, decide_eq_false_iff_not, decide_eq_false_iff_not]; omega
      have e2 : isBd (.tup ds) = false := by
        have : (decide (1 ≤ ds.length) && decide (ds.length ≤ 8)) = false := by
          rw [Bool.and_eq_false_iff, decide_eq_false_iff_not, decide_eq_false_iff_not]; omega
        simp only [isBd, this, Bool.false_and]
      simp [m_is_board_of, b_is_board_of, runB_ap, up, e, e2]
  | rol ds => simp only [fair] at h; cases h
  | pool => simp only [fair] at h; cases h
  | fn x => simp only [fair] at h; cases h
  | _ => simp [m_is_board_of, b_is_board_of, runB_ap, upto_ok (fair_kn h), isBd]
theorem isboard_ok {d : D} (h : fair d = true) (p : Pool) : m_is_board [d] p = .ok (.bl (isBd d)) p := by
  simp [m_is_board, b_is_board, runB_ap, boardof_ok h]
/-! ### the laws' own -/
theorem lnum_ok {d : D} (h : kn d = true) (p : Pool) : m__law_is_num [d] p = .ok (.bl (isI d)) p := whole_ok h p
theorem lfrac_ok {d : D} (h : fair d = true) (p : Pool) : m__law_is_fraction [d] p = .ok (.bl (isF d)) p := by
  have hk := fair_kn h
  by_cases ht : isTupB d = true
  · cases d <;> try cases ht
    rename_i ds
    match ds with
    | [] => simp [m__law_is_fraction, b__law_is_fraction, runB_ap, isD_tuple hk, isTupB, isF]
    | [_] => simp [m__law_is_fraction, b__law_is_fraction, runB_ap, isD_tuple hk, isTupB, isF]
    | _ :: _ :: _ :: l =>
      have : ((l.length : Int) + 1 + 1 + 1 = 2) = False := by simp; omega
      simp [m__law_is_fraction, b__law_is_fraction, runB_ap, isD_tuple hk, isTupB, isF, this]
    | [x, y] =>
      rw [fair_tup] at h
      simp only [List.all_cons, List.all_nil, Bool.and_true, Bool.and_eq_true] at h
      have l1 : lcM (pN false 1) dYes e__law_is_fraction_1 [x, y] [some (.tup [x, y]), none] p = .ok ([x, y].map fun d => D.bl (isI d)) p :=
        lcM_all (fun d => .bl (isI d)) [x, y] fun d hd => by
          refine ⟨_, rfl, ?_⟩
          have : kn d = true := by simp at hd; rcases hd with rfl | rfl; exact fair_kn h.1; exact fair_kn h.2
          simp [e__law_is_fraction_1, lnum_ok this]
      have i1 := inF_map true isI [x, y]
      by_cases hi : isI x = true ∧ isI y = true
      · cases x <;> try cases hi.1
        cases y <;> try cases hi.2
        rename_i a b
        have hb2 : b.natAbs < 2 ^ 200 := by simpa [fair] using h.2
        by_cases hb : 0 < b
        · have lf := lawf_ok (a := a) (b := b) (by omega) (Nat.lt_of_lt_of_le hb2 (Nat.pow_le_pow_right (by decide) (by decide)))
          have key : eqv (frD (Rat.divInt a b)) (.tup [.int a, .int b]) = isF (.tup [.int a, .int b]) := by
            rw [Bool.eq_iff_iff]
            constructor
            · intro e
              simp only [frD, eqv_tup, eqvs_cons, eqv_int, eqvs_nil, Bool.and_true, Bool.and_eq_true, decide_eq_true_eq] at e
              have := isF_frD (Rat.divInt a b)
              simp only [frD] at this
              rw [e.1, e.2] at this
              exact this
            · intro e
              obtain ⟨q, eq⟩ := frD_of e
              have eq' := eq
              simp only [frD, D.tup.injEq, List.cons.injEq, D.int.injEq, and_true] at eq'
              rw [eq, eqv_frD, eq'.1, eq'.2, Rat.num_divInt_den]
              exact decide_eq_true rfl
          simp [m__law_is_fraction, b__law_is_fraction, runB_ap, isD_tuple hk, isTupB, l1, i1, isI, hb, lf, key]
          simp [isI] at i1 l1
          simp [l1, i1, hb, lf, key]
        · have e : isF (.tup [.int a, .int b]) = false := by simp [isF, show ¬ 1 ≤ b by omega]
          simp [isI] at i1 l1
          simp [m__law_is_fraction, b__law_is_fraction, runB_ap, isD_tuple hk, isTupB, l1, i1, hb, e]
      · have e : isF (.tup [x, y]) = false := by
          cases x <;> cases y <;> first | rfl | (exfalso; exact hi ⟨rfl, rfl⟩)
        have e2 : ([x, y].all isI) = false := by
          simp only [List.all_cons, List.all_nil, Bool.and_true]
          cases z : isI x <;> cases z' : isI y <;> simp [z, z'] at hi ⊢
        rw [e2] at i1
        simp at i1 l1
        simp [m__law_is_fraction, b__law_is_fraction, runB_ap, isD_tuple hk, isTupB, l1, i1, e]
  · have e : isF d = false := by cases d <;> first | rfl | (exfalso; exact ht rfl)
    rw [Bool.not_eq_true] at ht
    simp [m__law_is_fraction, b__law_is_fraction, runB_ap, isD_tuple hk, ht, e]
theorem lboard_ok {d : D} (h : fair d = true) (p : Pool) : m__law_is_board [d] p = .ok (.bl (isBd d)) p := by
  have hk := fair_kn h
  by_cases ht : isTupB d = true
  · cases d <;> try cases ht
    rename_i ds
    have hf := h
    rw [fair_tup, List.all_eq_true] at h
    by_cases hl : 1 ≤ ds.length ∧ ds.length ≤ 8
    · have h1 : (1 : Int) ≤ ds.length := by omega
      have h2 : (ds.length : Int) ≤ 8 := by omega
      have lp : loopF (pN false 1) l__law_is_board_2 [1] ds [some (.tup ds), none, none] p = if ds.all isTap then .ok (.nx [some (.tup ds), none, none]) p else .ok (.rt (.bl false)) p := by
        refine loopF_until isTap (.bl false) ds fun d hd => ?_
        have hd' := h d hd
        have kd := fair_kn hd'
        -- what the turn does
        have turn : l__law_is_board_2 [some (.tup ds), some d, none] p = if isTap d = true then .ok (.nx [some (.tup ds), some d, none]) p else .ok (.rt (.bl false)) p := by
          by_cases hdt : isTupB d = true
          · cases d <;> try cases hdt
            rename_i es
            match es with
            | [] => simp [l__law_is_board_2, isD_tuple kd, isTupB, isTap]
            | [_] => simp [l__law_is_board_2, isD_tuple kd, isTupB, isTap]
            | _ :: _ :: _ :: l =>
              have : ((l.length : Int) + 1 + 1 + 1 = 2) = False := by simp; omega
              simp [l__law_is_board_2, isD_tuple kd, isTupB, isTap, this]
            | [x, y] =>
              rw [fair_tup] at hd'
              simp only [List.all_cons, List.all_nil, Bool.and_true, Bool.and_eq_true] at hd'
              have l1 : lcM (pN false 2) dYes e__law_is_board_1 [x, y] [some (.tup ds), some (.tup [x, y]), none] p = .ok ([x, y].map fun d => D.bl (isF d)) p :=
                lcM_all (fun d => .bl (isF d)) [x, y] fun d hd => by
                  refine ⟨_, rfl, ?_⟩
                  have : fair d = true := by simp at hd; rcases hd with rfl | rfl; exact hd'.1; exact hd'.2
                  simp [e__law_is_board_1, lfrac_ok this]
              have i1 := inF_map false isF [x, y]
              cases ex : isF x with
              | false =>
                simp [ex] at l1 i1
                simp [l__law_is_board_2, isD_tuple kd, isTupB, isTap, l1, i1, ex]
              | true =>
                cases ey : isF y with
                | false =>
                  simp [ex, ey] at l1 i1
                  simp [l__law_is_board_2, isD_tuple kd, isTupB, isTap, l1, i1, ex, ey]
                | true =>
                  simp [ex, ey] at l1 i1
                  have ex' := ex
                  unfold isF at ex'
                  split at ex'
                  · rename_i a b
                    by_cases ha : a < 1
                    · simp [l__law_is_board_2, isD_tuple kd, isTupB, isTap, l1, i1, ex, ey, posF, ha, show ¬ 0 < a by omega]
                    · simp [l__law_is_board_2, isD_tuple kd, isTupB, isTap, l1, i1, ex, ey, posF, ha, show 0 < a by omega]
                  · cases ex'
          · have e : isTap d = false := by cases d <;> first | rfl | (exfalso; exact hdt rfl)
            rw [Bool.not_eq_true] at hdt
            simp [l__law_is_board_2, isD_tuple kd, hdt, e]
        refine ⟨fun e => ⟨_, [some (.tup ds), some d, none], rfl, ?_, by simp⟩, fun e => ⟨_, rfl, ?_⟩⟩
        · have := turn
          rw [if_pos e] at this
          exact this
        · have := turn
          rw [if_neg (by rw [e]; decide)] at this
          exact this
      simp [m__law_is_board, b__law_is_board, runB_ap, isD_tuple hk, isTupB, h1, h2, lp, isBd, hl]
      by_cases e : ∀ x ∈ ds, isTap x = true
      · have e' : ds.all isTap = true := by rw [List.all_eq_true]; exact e
        simp only [if_pos e, nxt_nx, run_rt, e']
      · have e' : ds.all isTap = false := by rw [← Bool.not_eq_true, List.all_eq_true]; exact e
        simp only [if_neg e, nxt_rt, run_rt, e']
    · have e2 : isBd (.tup ds) = false := by
        have : (decide (1 ≤ ds.length) && decide (ds.length ≤ 8)) = false := by
          rw [Bool.and_eq_false_iff, decide_eq_false_iff_not, decide_eq_false_iff_not]; omega
        simp only [isBd, this, Bool.false_and]
      by_cases h1 : (1 : Int) ≤ ds.length
      · have h2 : ¬ (ds.length : Int) ≤ 8 := by omega
        simp [m__law_is_board, b__law_is_board, runB_ap, isD_tuple hk, isTupB, h1, h2, e2]
      · simp [m__law_is_board, b__law_is_board, runB_ap, isD_tuple hk, isTupB, h1, e2]
  · have e : isBd d = false := by cases d <;> first | rfl | (exfalso; exact ht rfl)
    rw [Bool.not_eq_true] at ht
    simp [m__law_is_board, b__law_is_board, runB_ap, isD_tuple hk, ht, e]
end MW

end
section
namespace MW
open PySem PySem.Spec L2 DL
/-! ### settings -/
def nnF (d : D) : Bool := isF d && (match d with
  | .tup (.int a :: _) => decide (0 ≤ a)
  | _ => false)
def valF : D → Rat
  | .tup [.int a, .int b] => Rat.divInt a b
  | _ => 0
@[simp] theorem valF_frD (q : Rat) : valF (frD q) = q := Rat.num_divInt_den q
theorem nnF_frD (q : Rat) : nnF (frD q) = decide (0 ≤ q) := by
  unfold nnF
  rw [isF_frD]
  simp only [frD, Bool.true_and]
  rw [decide_eq_decide]
  exact Rat.num_nonneg
theorem fair_q {d : D} (h : fair d = true) (hf : isF d = true) : ∃ q, d = frD q ∧ szR 200 q := by
  have hf' := hf
  unfold isF at hf'
  split at hf'
  · rename_i a b
    obtain ⟨q, e⟩ := frD_of hf
    refine ⟨q, e, ?_⟩
    rw [e] at h
    simp only [frD, fair_tup, List.all_cons, List.all_nil, fair, Int.natAbs_natCast, Bool.and_true, Bool.and_eq_true, decide_eq_true_eq] at h
    exact h
  · cases hf'
theorem fromn_ok {d : D} (h : fair d = true) (p : Pool) : m_is_from_nought [d] p = .ok (.bl (nnF d)) p := by
  simp [m_is_from_nought, b_is_from_nought, runB_ap, isfrac_ok (fair_kn2 h)]
  cases e : isF d with
  | false => simp [nnF, e]
  | true =>
    obtain ⟨q, rfl, _⟩ := fair_q h e
    simp [nnF_frD]
theorem lessc_ok {a b : Rat} {n : Nat} (ha : szR n a) (hb : szR n b) (hn : n ≤ 4000) (p : Pool) : m_is_less [frD a, frD b] p = .ok (.bl (decide (a < b))) p := by
  simp [m_is_less, b_is_less, runB_ap, mulD_sz hn ha.1 (den_abs hb), mulD_sz hn hb.1 (den_abs ha), Rat.lt_iff]
def okFl (f : Rat) (d : D) : Bool := nnF d && !decide (f < valF d)
theorem flow_ok {f w : Rat} (hf : szR 200 f) {d : D} (h : fair d = true) (p : Pool) : m_is_flow [.tup [frD f, frD w], d] p = .ok (.bl (okFl f d)) p := by
  simp [m_is_flow, b_is_flow, runB_ap, fromn_ok h]
  cases e : nnF d with
  | false => simp [okFl, e]
  | true =>
    have e' : isF d = true := by unfold nnF at e; rw [Bool.and_eq_true] at e; exact e.1
    obtain ⟨q, rfl, hq⟩ := fair_q h e'
    simp [lessc_ok hf hq (by decide), okFl, e]
/-- a tap's flow -/
def tapF : D → Rat
  | .tup [x, _] => valF x
  | _ => 0
/-- a tap of a board: its flow above nought -/
def Tap (d : D) : Prop := ∃ f w : Rat, d = .tup [frD f, frD w] ∧ szR 200 f ∧ szR 200 w ∧ 0 < f
theorem Tap.fair {d : D} (h : Tap d) : fair d = true := by
  obtain ⟨f, w, rfl, h1, h2, _⟩ := h
  rw [fair_tup]
  simp [fair_frD h1, fair_frD h2]
theorem Tap.is {d : D} (h : Tap d) : isTap d = true := by
  obtain ⟨f, w, rfl, h1, h2, h3⟩ := h
  simp only [isTap, isF_frD, Bool.true_and, Bool.and_true]
  simp only [frD, posF, decide_eq_true_eq]
  have h4 : ¬ f.num ≤ 0 := fun z => by
    have h0 : (0 : Rat) ≤ f := by grind
    have := Rat.num_nonneg.mpr h0
    have e : f.num = 0 := by omega
    have e2 : f = 0 := Rat.num_eq_zero.mp e
    rw [e2] at h3
    exact absurd h3 (by grind)
  omega
theorem board_is {ds : List D} (h1 : 1 ≤ ds.length) (h2 : ds.length ≤ 8) (h : ∀ d ∈ ds, Tap d) : isBd (.tup ds) = true ∧ fair (.tup ds) = true := by
  refine ⟨?_, ?_⟩
  · simp only [isBd, Bool.and_eq_true, decide_eq_true_eq, List.all_eq_true]
    exact ⟨⟨h1, h2⟩, fun d hd => (h d hd).is⟩
  · rw [fair_tup, List.all_eq_true]
    exact fun d hd => (h d hd).fair
theorem checkb_ok {ds : List D} (h1 : 1 ≤ ds.length) (h2 : ds.length ≤ 8) (h : ∀ d ∈ ds, Tap d) (p : Pool) : m_check_board [.tup ds] p = .ok .non p := by
  obtain ⟨b1, b2⟩ := board_is h1 h2 h
  have := boardof_ok b2 p
  rw [b1] at this
  simp [m_check_board, b_check_board, runB_ap, this]
def isSet (ds : List D) : D → Bool
  | .tup es => decide (es.length = ds.length) && (List.zip ds es).all fun x => okFl (tapF x.1) x.2
  | _ => false
def badP : D → Bool
  | .tup [_, .tup [t, e]] => !okFl (tapF t) e
  | _ => false
def idxP : D → D
  | .tup [k, _] => k
  | d => d
theorem badP_all : ∀ (ds es : List D) (k : Int), ((enumF k (zipF ds es)).filter badP = []) ↔ ((List.zip ds es).all fun x => okFl (tapF x.1) x.2) = true
  | [], es, k => by simp [zipF, enumF]
  | d :: ds, [], k => by simp [zipF, enumF]
  | d :: ds, e :: es, k => by
    have ih := badP_all ds es (k + 1)
    have z : enumF k (zipF (d :: ds) (e :: es)) = .tup [.int k, .tup [d, e]] :: enumF (k + 1) (zipF ds es) := rfl
    rw [z, List.zip_cons_cons, List.all_cons]
    cases c : okFl (tapF d) e with
    | true =>
      rw [List.filter_cons_of_neg (by simp [badP, c]), ih]
      simp
    | false =>
      rw [List.filter_cons_of_pos (by simp [badP, c])]
      simp
theorem enum_mem {ds es : List D} {k : Int} {d : D} (h : d ∈ enumF k (zipF ds es)) : ∃ i t e, d = .tup [.int i, .tup [t, e]] ∧ t ∈ ds ∧ e ∈ es := by
  obtain ⟨i, hi⟩ := List.mem_iff_getElem?.mp h
  rw [enumF_get] at hi
  obtain ⟨x, hx, rfl⟩ := Option.map_eq_some_iff.mp hi
  unfold zipF at hx
  rw [List.getElem?_zipWith] at hx
  cases a : ds[i]? with
  | none => rw [a] at hx; cases hx
  | some t =>
    cases b : es[i]? with
    | none => rw [a, b] at hx; cases hx
    | some e =>
      rw [a, b] at hx
      cases hx
      exact ⟨_, t, e, rfl, List.mem_of_getElem? a, List.mem_of_getElem? b⟩
theorem setof_ok {ds : List D} (hl : ds.length ≤ 8) (h : ∀ d ∈ ds, Tap d) {v : D} (hv : fair v = true) (p : Pool) : m_is_setting_of [.tup ds, v] p = .ok (.bl (isSet ds v)) p := by
  have tu := tupof_ok (fair_kn hv) ds.length p
  by_cases c : ∃ es, v = .tup es ∧ es.length = ds.length
  · obtain ⟨es, rfl, he⟩ := c
    rw [fair_tup, List.all_eq_true] at hv
    have l : lcM (pT [pN false 2, pT [pN false 3, pN false 4]]) c_wrong_in_setting_1 e_wrong_in_setting_2 (enumF 0 (zipF ds es)) [some (.tup ds), some (.tup es), none, none, none] p = .ok (((enumF 0 (zipF ds es)).filter badP).map idxP) p :=
      lcM_map badP idxP _ fun d hd => by
        obtain ⟨i, t, e, rfl, ht, hee⟩ := enum_mem hd
        obtain ⟨f, w, rfl, s1, s2, _⟩ := h t ht
        refine ⟨[some (.tup ds), some (.tup es), some (.int i), some (.tup [frD f, frD w]), some e], rfl, ?_, fun _ => ?_⟩
        · simp [c_wrong_in_setting_1, flow_ok s1 (hv e hee), badP, tapF]
        · simp [e_wrong_in_setting_2, idxP]
    have ln : (enumF 0 (zipF ds es)).length ≤ 10000 := by
      rw [enumF_len, zipF, List.length_zipWith]
      omega
    have key : isSet ds (.tup es) = decide ((enumF 0 (zipF ds es)).filter badP = []) := by
      show (decide (es.length = ds.length) && _) = _
      rw [decide_eq_true he, Bool.true_and, Bool.eq_iff_iff, decide_eq_true_eq, badP_all]
    rw [key]
    have shl : ∀ l : List D, (∀ d ∈ l, ∃ i t e, d = .tup [.int i, .tup [t, e]]) → ((cut (l.map idxP) none (some 1)).all (sh 19)) = true := fun l hl => by
      rw [List.all_eq_true]
      intro x hx
      obtain ⟨d, hd, rfl⟩ := List.mem_map.mp (cut_mem hx)
      obtain ⟨i, t, e, rfl⟩ := hl d hd
      exact sh_i _ _
    have sh1 := shl ((enumF 0 (zipF ds es)).filter badP) fun d hd => by
      obtain ⟨i, t, e, rfl, _⟩ := enum_mem (List.mem_filter.mp hd).1
      exact ⟨i, t, e, rfl⟩
    have eqn : eqvs (cut (((enumF 0 (zipF ds es)).filter badP).map idxP) none (some 1)) [] = decide ((enumF 0 (zipF ds es)).filter badP = []) := by
      have cu := cut_up (((enumF 0 (zipF ds es)).filter badP).map idxP) 1
      have cu' : cut (((enumF 0 (zipF ds es)).filter badP).map idxP) none (some 1) = (((enumF 0 (zipF ds es)).filter badP).map idxP).take 1 := cu
      rw [cu']
      cases ((enumF 0 (zipF ds es)).filter badP) <;> simp
    simp [m_is_setting_of, b_is_setting_of, m_wrong_in_setting, b_wrong_in_setting, runB_ap, tu, he, ln, l, lstO_of, sh1, eqn]
  · have e1 : isSet ds v = false := by
      cases v <;> try rfl
      rename_i es
      have : es.length ≠ ds.length := fun z => c ⟨es, rfl, z⟩
      simp [isSet, this]
    have tu' : m_is_tuple_of [v, .int ds.length] p = .ok (.bl false) p := by
      rw [tu]
      cases v <;> try rfl
      rename_i es
      have : ¬ (es.length : Int) = ds.length := fun z => c ⟨es, rfl, by omega⟩
      simp only [this, decide_false]
    simp [m_is_setting_of, b_is_setting_of, m_wrong_in_setting, b_wrong_in_setting, runB_ap, tu', lstO_of, e1]
end MW

end
section
namespace MC
open PySem PySem.Spec L2 DL
def b_plus : DEnv → M Fl :=
  (sRet (dCall 2 MW.m_plain_of (dCons (d2 addD (d2 mulD (d2 ixD (dVar 0) (dC (.int 0))) (d2 ixD (dVar 1) (dC (.int 1)))) (d2 mulD (d2 ixD (dVar 1) (dC (.int 0))) (d2 ixD (dVar 0) (dC (.int 1))))) (dCons (d2 mulD (d2 ixD (dVar 0) (dC (.int 1))) (d2 ixD (dVar 1) (dC (.int 1)))) dNil))))
def m_plus : List D → M D := runB b_plus 2
def b_minus : DEnv → M Fl :=
  (sRet (dCall 2 MW.m_plain_of (dCons (d2 subD (d2 mulD (d2 ixD (dVar 0) (dC (.int 0))) (d2 ixD (dVar 1) (dC (.int 1)))) (d2 mulD (d2 ixD (dVar 1) (dC (.int 0))) (d2 ixD (dVar 0) (dC (.int 1))))) (dCons (d2 mulD (d2 ixD (dVar 0) (dC (.int 1))) (d2 ixD (dVar 1) (dC (.int 1)))) dNil))))
def m_minus : List D → M D := runB b_minus 2
def b_times : DEnv → M Fl :=
  (sRet (dCall 2 MW.m_plain_of (dCons (d2 mulD (d2 ixD (dVar 0) (dC (.int 0))) (d2 ixD (dVar 1) (dC (.int 0)))) (dCons (d2 mulD (d2 ixD (dVar 0) (dC (.int 1))) (d2 ixD (dVar 1) (dC (.int 1)))) dNil))))
def m_times : List D → M D := runB b_times 2
def l_sum_of_1 : DEnv → M Fl :=
  (sSet false 1 (dCall 2 MC.m_plus (dCons (dVar 1) (dCons (dVar 2) dNil))))
def b_sum_of : DEnv → M Fl :=
  (sSeq (sSet false 1 (dC (.tup [(.int 0), (.int 1)]))) (sSeq (sFor (iSeq (dVar 0)) (pN false 2) [2] l_sum_of_1) (sRet (dVar 1))))
def m_sum_of : List D → M D := runB b_sum_of 3
def b_greater_of : DEnv → M Fl :=
  (sRet (dIte (dB (dCall 2 MW.m_is_less (dCons (dVar 0) (dCons (dVar 1) dNil)))) (dVar 1) (dVar 0)))
def m_greater_of : List D → M D := runB b_greater_of 2
def b_above_of : DEnv → M Fl :=
  (sRet (dCall 2 MC.m_greater_of (dCons (dVar 0) (dCons (dC (.tup [(.int 0), (.int 1)])) dNil))))
def m_above_of : List D → M D := runB b_above_of 1
def e_total_of_1 : DEnv → M D :=
  (dVar 1)
def b_total_of : DEnv → M Fl :=
  (sRet (dCall 1 MC.m_sum_of (dCons (dLc (iSeq (dVar 0)) [1, 2] (pT [(pN false 1), (pN false 2)]) dYes e_total_of_1) dNil)))
def m_total_of : List D → M D := runB b_total_of 3
def e_heat_of_1 : DEnv → M D :=
  (dCall 2 MC.m_times (dCons (dVar 1) (dCons (dVar 2) dNil)))
def b_heat_of : DEnv → M Fl :=
  (sRet (dCall 1 MC.m_sum_of (dCons (dLc (iSeq (dVar 0)) [1, 2] (pT [(pN false 1), (pN false 2)]) dYes e_heat_of_1) dNil)))
def m_heat_of : List D → M D := runB b_heat_of 3
def e_excess_of_1 : DEnv → M D :=
  (dCall 2 MC.m_times (dCons (dVar 2) (dCons (dCall 1 MC.m_above_of (dCons (dCall 2 MC.m_minus (dCons (dVar 3) (dCons (dVar 1) dNil))) dNil)) dNil)))
def b_excess_of : DEnv → M Fl :=
  (sRet (dCall 1 MC.m_sum_of (dCons (dLc (iSeq (dVar 0)) [2, 3] (pT [(pN false 2), (pN false 3)]) dYes e_excess_of_1) dNil)))
def m_excess_of : List D → M D := runB b_excess_of 4
def e_lack_of_1 : DEnv → M D :=
  (dCall 2 MC.m_times (dCons (dVar 2) (dCons (dCall 1 MC.m_above_of (dCons (dCall 2 MC.m_minus (dCons (dVar 1) (dCons (dVar 3) dNil))) dNil)) dNil)))
def b_lack_of : DEnv → M Fl :=
  (sRet (dCall 1 MC.m_sum_of (dCons (dLc (iSeq (dVar 0)) [2, 3] (pT [(pN false 2), (pN false 3)]) dYes e_lack_of_1) dNil)))
def m_lack_of : List D → M D := runB b_lack_of 4
def c_rising_places_1 : DEnv → M Bool :=
  (dNot (dB (dCall 2 MW.m_is_less (dCons (dVar 3) (dCons (d2 ixD (dVar 0) (dVar 5)) dNil)))))
def e_rising_places_2 : DEnv → M D :=
  (dVar 5)
def l_rising_places_3 : DEnv → M Fl :=
  (sSeq (sSet true 4 (dA lenD (dCons (dLc (iSeq (dVar 1)) [5] (pN true 5) c_rising_places_1 e_rising_places_2) dNil))) (sMu insD 1 (dCons (dVar 4) (dCons (dVar 2) dNil))))
def p_rising_places : List (DEnv → M Fl) := [(sSet false 1 (dNewL (dA lstO dNil))),
  (sFor (iO enumD (dCons (dVar 0) dNil)) (pT [(pN true 2), (pN true 3)]) [2, 3, 4] l_rising_places_3)]
def r_rising_places : DEnv → M D := (dVar 1)
def m_rising_places : List D → M D := runV p_rising_places r_rising_places 6
def e_rising_taps_1 : DEnv → M D :=
  (dVar 2)
def p_rising_taps : List (DEnv → M Fl) := []
def r_rising_taps : DEnv → M D := (dCall 1 MC.m_rising_places (dCons (dLc (iSeq (dVar 0)) [1, 2] (pT [(pN false 1), (pN false 2)]) dYes e_rising_taps_1) dNil))
def m_rising_taps : List D → M D := runV p_rising_taps r_rising_taps 3
def l_normal_of_1 : DEnv → M Fl :=
  (sSeq (sAsg (pT [(pN true 3), (pN true 4)]) (d2 ixD (dVar 0) (dVar 2))) (sSeq (sIf (dAnd (dB (d2 (eqD true) (dVar 1) (dA lstO dNil))) (dB (d2 (eqD false) (d2 ixD (d2 ixD (dVar 1) (d1 negD (dC (.int 1)))) (dC (.int 1))) (dVar 4)))) (sPopC 1 3 0 2 MC.m_plus (dCons (dVar 3) dNil)) sNil) (sMu appD 1 (dCons (dA tupO (dCons (dVar 3) (dCons (dVar 4) dNil))) dNil))))
def b_normal_of : DEnv → M Fl :=
  (sSeq (sSet false 1 (dNewL (dA lstO dNil))) (sSeq (sFor (iSeq (dNewL (d1 revN (dCall 1 MC.m_rising_taps (dCons (dVar 0) dNil))))) (pN true 2) [2, 3, 4] l_normal_of_1) (sRet (dA tupleD (dCons (dVar 1) dNil)))))
def m_normal_of : List D → M D := runB b_normal_of 5
def e_warmths_of_1 : DEnv → M D :=
  (dVar 2)
def p_warmths_of : List (DEnv → M Fl) := []
def r_warmths_of : DEnv → M D := (dLc (iSeq (dCall 1 MC.m_normal_of (dCons (dVar 0) dNil))) [1, 2] (pT [(pN false 1), (pN false 2)]) dYes e_warmths_of_1)
def m_warmths_of : List D → M D := runV p_warmths_of r_warmths_of 3
def b_total : DEnv → M Fl :=
  (sSeq (sDrop (dCall 1 MW.m_check_board (dCons (dVar 0) dNil))) (sRet (dCall 1 MC.m_total_of (dCons (dVar 0) dNil))))
def m_total : List D → M D := runB b_total 1
def b_whole_heat : DEnv → M Fl :=
  (sSeq (sDrop (dCall 1 MW.m_check_board (dCons (dVar 0) dNil))) (sRet (dCall 1 MC.m_heat_of (dCons (dVar 0) dNil))))
def m_whole_heat : List D → M D := runB b_whole_heat 1
def b_check_warmth : DEnv → M Fl :=
  (sSeq (sDrop (dCall 1 MW.m_check_board (dCons (dVar 0) dNil))) (sDrop (dCall 1 MW.m_check_fraction (dCons (dVar 1) dNil))))
def m_check_warmth : List D → M D := runB b_check_warmth 2
def b_excess : DEnv → M Fl :=
  (sSeq (sDrop (dCall 2 MC.m_check_warmth (dCons (dVar 0) (dCons (dVar 1) dNil)))) (sRet (dCall 2 MC.m_excess_of (dCons (dVar 0) (dCons (dVar 1) dNil)))))
def m_excess : List D → M D := runB b_excess 2
def b_lack : DEnv → M Fl :=
  (sSeq (sDrop (dCall 2 MC.m_check_warmth (dCons (dVar 0) (dCons (dVar 1) dNil)))) (sRet (dCall 2 MC.m_lack_of (dCons (dVar 0) (dCons (dVar 1) dNil)))))
def m_lack : List D → M D := runB b_lack 2
def b_warmths : DEnv → M Fl :=
  (sSeq (sDrop (dCall 1 MW.m_check_board (dCons (dVar 0) dNil))) (sRet (dA tupleD (dCons (dCall 1 MC.m_warmths_of (dCons (dVar 0) dNil)) dNil))))
def m_warmths : List D → M D := runB b_warmths 1
def l__law_sum_1 : DEnv → M Fl :=
  (sSet false 1 (dCall 2 MW.m__law_plus (dCons (dVar 1) (dCons (dVar 2) dNil))))
def b__law_sum : DEnv → M Fl :=
  (sSeq (sSet false 1 (dA tupO (dCons (dC (.int 0)) (dCons (dC (.int 1)) dNil)))) (sSeq (sFor (iSeq (dVar 0)) (pN false 2) [2] l__law_sum_1) (sRet (dVar 1))))
def m__law_sum : List D → M D := runB b__law_sum 3
def e_mix_by_1 : DEnv → M D :=
  (dCall 2 MC.m_times (dCons (dVar 3) (dCons (dVar 5) dNil)))
def b_mix_by : DEnv → M Fl :=
  (sSeq (sSet false 2 (dLc (iO zipD (dCons (dVar 1) (dCons (dVar 0) dNil))) [3, 4, 5] (pT [(pN false 3), (pT [(pN false 4), (pN false 5)])]) dYes e_mix_by_1)) (sRet (dA tupO (dCons (dCall 1 MC.m_sum_of (dCons (dVar 1) dNil)) (dCons (dCall 1 MC.m_sum_of (dCons (dVar 2) dNil)) dNil)))))
def m_mix_by : List D → M D := runB b_mix_by 6
def l_check_setting_1 : DEnv → M Fl :=
  sNever
def b_check_setting : DEnv → M Fl :=
  (sFor (iSeq (dCall 2 MW.m_wrong_in_setting (dCons (dVar 0) (dCons (dVar 1) dNil)))) (pN false 2) [2] l_check_setting_1)
def m_check_setting : List D → M D := runB b_check_setting 3
def b_check_set : DEnv → M Fl :=
  (sSeq (sDrop (dCall 1 MW.m_check_board (dCons (dVar 0) dNil))) (sDrop (dCall 2 MC.m_check_setting (dCons (dVar 0) (dCons (dVar 1) dNil)))))
def m_check_set : List D → M D := runB b_check_set 2
def b_mix_of : DEnv → M Fl :=
  (sSeq (sDrop (dCall 2 MC.m_check_set (dCons (dVar 0) (dCons (dVar 1) dNil)))) (sRet (dCall 2 MC.m_mix_by (dCons (dVar 0) (dCons (dVar 1) dNil)))))
def m_mix_of : List D → M D := runB b_mix_of 2
def e_full_1 : DEnv → M D :=
  (dVar 1)
def b_full : DEnv → M Fl :=
  (sSeq (sDrop (dCall 1 MW.m_check_board (dCons (dVar 0) dNil))) (sRet (dA tupleD (dCons (dLc (iSeq (dVar 0)) [1, 2] (pT [(pN false 1), (pN false 2)]) dYes e_full_1) dNil))))
def m_full : List D → M D := runB b_full 3
def e__law_total_1 : DEnv → M D :=
  (dVar 1)
def b__law_total : DEnv → M Fl :=
  (sRet (dCall 1 MC.m__law_sum (dCons (dLc (iSeq (dVar 0)) [1, 2] (pT [(pN false 1), (pN false 2)]) dYes e__law_total_1) dNil)))
def m__law_total : List D → M D := runB b__law_total 3
def b_over : DEnv → M Fl :=
  (sRet (dCall 2 MW.m_plain_of (dCons (d2 mulD (d2 ixD (dVar 0) (dC (.int 0))) (d2 ixD (dVar 1) (dC (.int 1)))) (dCons (d2 mulD (d2 ixD (dVar 0) (dC (.int 1))) (d2 ixD (dVar 1) (dC (.int 0)))) dNil))))
def m_over : List D → M D := runB b_over 2
def b_is_mix_of : DEnv → M Fl :=
  (sRet (dAndV (dCall 1 MW.m_is_pair (dCons (dVar 0) dNil)) (dAndV (dCall 1 MW.m_is_from_nought (dCons (d2 ixD (dVar 0) (dC (.int 0))) dNil)) (dCall 1 MW.m_is_fraction_of (dCons (d2 ixD (dVar 0) (dC (.int 1))) dNil)))))
def m_is_mix_of : List D → M D := runB b_is_mix_of 1
def b_check_mix : DEnv → M Fl :=
  (sIf (dNot (dB (dCall 1 MC.m_is_mix_of (dCons (dVar 0) dNil)))) sNever sNil)
def m_check_mix : List D → M D := runB b_check_mix 1
def b_warmth_of : DEnv → M Fl :=
  (sSeq (sDrop (dCall 1 MC.m_check_mix (dCons (dVar 0) dNil))) (sSeq (sIf (dB (d2 (eqD false) (d2 ixD (dVar 0) (dC (.int 0))) (dC (.tup [(.int 0), (.int 1)])))) sNever sNil) (sRet (dCall 2 MC.m_over (dCons (d2 ixD (dVar 0) (dC (.int 1))) (dCons (d2 ixD (dVar 0) (dC (.int 0))) dNil))))))
def m_warmth_of : List D → M D := runB b_warmth_of 1
def b_shut : DEnv → M Fl :=
  (sSeq (sDrop (dCall 1 MW.m_check_board (dCons (dVar 0) dNil))) (sRet (dCall 1 MW.m_shut_by (dCons (dVar 0) dNil))))
def m_shut : List D → M D := runB b_shut 1
def b_check_volume_from : DEnv → M Fl :=
  (sIf (dNot (dB (dCall 1 MW.m_is_from_nought (dCons (dVar 0) dNil)))) sNever sNil)
def m_check_volume_from : List D → M D := runB b_check_volume_from 1
def b_check_within : DEnv → M Fl :=
  (sSeq (sDrop (dCall 1 MW.m_check_board (dCons (dVar 0) dNil))) (sSeq (sDrop (dCall 1 MC.m_check_volume_from (dCons (dVar 1) dNil))) (sIf (dB (dCall 2 MW.m_is_less (dCons (dCall 1 MC.m_total_of (dCons (dVar 0) dNil)) (dCons (dVar 1) dNil)))) sNever sNil)))
def m_check_within : List D → M D := runB b_check_within 2
def l_ends_of_1 : DEnv → M Fl :=
  (sSeq (sMu appD 1 (dCons (dA tupO (dCons (dVar 3) (dCons (dVar 2) dNil))) dNil)) (sSet true 2 (dCall 2 MC.m_plus (dCons (dVar 2) (dCons (d2 ixD (d2 ixD (dVar 0) (dVar 3)) (dC (.int 0))) dNil)))))
def p_ends_of : List (DEnv → M Fl) := [(sParO 1 2 (dA lstO dNil) (dC (.tup [(.int 0), (.int 1)]))),
  (sFor (iSeq (dNewL (dCall 1 MC.m_rising_taps (dCons (dVar 0) dNil)))) (pN true 3) [3] l_ends_of_1)]
def r_ends_of : DEnv → M D := (dVar 1)
def m_ends_of : List D → M D := runV p_ends_of r_ends_of 4
def b_lesser_of : DEnv → M Fl :=
  (sRet (dIte (dB (dCall 2 MW.m_is_less (dCons (dVar 0) (dCons (dVar 1) dNil)))) (dVar 0) (dVar 1)))
def m_lesser_of : List D → M D := runB b_lesser_of 2
def e_stretch_at_1 : DEnv → M D :=
  (dC (.tup [(.int 0), (.int 1)]))
def l_stretch_at_2 : DEnv → M Fl :=
  (sSeq (sPar true 7 8 (dCons (dCall 2 MC.m_greater_of (dCons (dVar 6) (dCons (dVar 1) dNil))) (dCons (dCall 2 MC.m_lesser_of (dCons (dCall 2 MC.m_plus (dCons (dVar 6) (dCons (d2 ixD (d2 ixD (dVar 0) (dVar 5)) (dC (.int 0))) dNil))) (dCons (dVar 4) dNil))) dNil))) (sItO 3 (dVar 5) (dCall 1 MC.m_above_of (dCons (dCall 2 MC.m_minus (dCons (dVar 8) (dCons (dVar 7) dNil))) dNil))))
def b_stretch_at : DEnv → M Fl :=
  (sSeq (sParO 3 4 (dLc (iSeq (dVar 0)) [9] (pN true 9) dYes e_stretch_at_1) (dCall 2 MC.m_plus (dCons (dVar 1) (dCons (dVar 2) dNil)))) (sSeq (sFor (iSeq (dNewL (dCall 1 MC.m_ends_of (dCons (dVar 0) dNil)))) (pT [(pN true 5), (pN true 6)]) [5, 6, 7, 8] l_stretch_at_2) (sRet (dA tupleD (dCons (dVar 3) dNil)))))
def m_stretch_at : List D → M D := runB b_stretch_at 10
def b_heat_at : DEnv → M Fl :=
  (sRet (d2 ixD (dCall 2 MC.m_mix_by (dCons (dVar 0) (dCons (dCall 3 MC.m_stretch_at (dCons (dVar 0) (dCons (dVar 1) (dCons (dVar 2) dNil)))) dNil))) (dC (.int 1))))
def m_heat_at : List D → M D := runB b_heat_at 3
def b_heats_at : DEnv → M Fl :=
  (sRet (dA tupO (dCons (dCall 3 MC.m_heat_at (dCons (dVar 0) (dCons (dC (.tup [(.int 0), (.int 1)])) (dCons (dVar 1) dNil)))) (dCons (dCall 3 MC.m_heat_at (dCons (dVar 0) (dCons (dCall 2 MC.m_minus (dCons (dCall 1 MC.m_total_of (dCons (dVar 0) dNil)) (dCons (dVar 1) dNil))) (dCons (dVar 1) dNil)))) dNil))))
def m_heats_at : List D → M D := runB b_heats_at 2
def b_hottest : DEnv → M Fl :=
  (sSeq (sDrop (dCall 2 MC.m_check_within (dCons (dVar 0) (dCons (dVar 1) dNil)))) (sRet (d2 ixD (dCall 2 MC.m_heats_at (dCons (dVar 0) (dCons (dVar 1) dNil))) (dC (.int 1)))))
def m_hottest : List D → M D := runB b_hottest 2
def b_coldest : DEnv → M Fl :=
  (sSeq (sDrop (dCall 2 MC.m_check_within (dCons (dVar 0) (dCons (dVar 1) dNil)))) (sRet (d2 ixD (dCall 2 MC.m_heats_at (dCons (dVar 0) (dCons (dVar 1) dNil))) (dC (.int 0)))))
def m_coldest : List D → M D := runB b_coldest 2
def b_span_by : DEnv → M Fl :=
  (sSeq (sAsg (pT [(pN false 2), (pN false 3)]) (dCall 2 MC.m_heats_at (dCons (dVar 0) (dCons (dVar 1) dNil)))) (sRet (dA tupO (dCons (dCall 2 MC.m_over (dCons (dVar 2) (dCons (dVar 1) dNil))) (dCons (dCall 2 MC.m_over (dCons (dVar 3) (dCons (dVar 1) dNil))) dNil)))))
def m_span_by : List D → M D := runB b_span_by 4
def b_check_volume : DEnv → M Fl :=
  (sIf (dNot (dB (dCall 1 MW.m_is_above_nought (dCons (dVar 0) dNil)))) sNever sNil)
def m_check_volume : List D → M D := runB b_check_volume 1
def b_span : DEnv → M Fl :=
  (sSeq (sDrop (dCall 1 MW.m_check_board (dCons (dVar 0) dNil))) (sSeq (sDrop (dCall 1 MC.m_check_volume (dCons (dVar 1) dNil))) (sSeq (sIf (dB (dCall 2 MW.m_is_less (dCons (dCall 1 MC.m_total_of (dCons (dVar 0) dNil)) (dCons (dVar 1) dNil)))) sNever sNil) (sRet (dCall 2 MC.m_span_by (dCons (dVar 0) (dCons (dVar 1) dNil)))))))
def m_span : List D → M D := runB b_span 2
def b_normal : DEnv → M Fl :=
  (sSeq (sDrop (dCall 1 MW.m_check_board (dCons (dVar 0) dNil))) (sRet (dCall 1 MC.m_normal_of (dCons (dVar 0) dNil))))
def m_normal : List D → M D := runB b_normal 1
def b_are_alike_by : DEnv → M Fl :=
  (sRet (d2 (eqD false) (dCall 1 MC.m_normal_of (dCons (dVar 0) dNil)) (dCall 1 MC.m_normal_of (dCons (dVar 1) dNil))))
def m_are_alike_by : List D → M D := runB b_are_alike_by 2
def b_check_two : DEnv → M Fl :=
  (sSeq (sDrop (dCall 1 MW.m_check_board (dCons (dVar 0) dNil))) (sDrop (dCall 1 MW.m_check_board (dCons (dVar 1) dNil))))
def m_check_two : List D → M D := runB b_check_two 2
def b_are_alike : DEnv → M Fl :=
  (sSeq (sDrop (dCall 2 MC.m_check_two (dCons (dVar 0) (dCons (dVar 1) dNil)))) (sRet (dCall 2 MC.m_are_alike_by (dCons (dVar 0) (dCons (dVar 1) dNil)))))
def m_are_alike : List D → M D := runB b_are_alike 2
def b_does_give_by : DEnv → M Fl :=
  (sSeq (sAsg (pT [(pN false 2), (pN false 3)]) (dVar 1)) (sSeq (sIf (dB (dCall 2 MW.m_is_less (dCons (dCall 1 MC.m_total_of (dCons (dVar 0) dNil)) (dCons (dVar 2) dNil)))) (sRet (dC (.bl false))) sNil) (sSeq (sAsg (pT [(pN false 4), (pN false 5)]) (dCall 2 MC.m_heats_at (dCons (dVar 0) (dCons (dVar 2) dNil)))) (sRet (dAndV (dNotV (dCall 2 MW.m_is_less (dCons (dVar 3) (dCons (dVar 4) dNil)))) (dNotV (dCall 2 MW.m_is_less (dCons (dVar 5) (dCons (dVar 3) dNil)))))))))
def m_does_give_by : List D → M D := runB b_does_give_by 6
def b_check_mixed : DEnv → M Fl :=
  (sSeq (sDrop (dCall 1 MW.m_check_board (dCons (dVar 0) dNil))) (sDrop (dCall 1 MC.m_check_mix (dCons (dVar 1) dNil))))
def m_check_mixed : List D → M D := runB b_check_mixed 2
def b_does_give : DEnv → M Fl :=
  (sSeq (sDrop (dCall 2 MC.m_check_mixed (dCons (dVar 0) (dCons (dVar 1) dNil)))) (sRet (dCall 2 MC.m_does_give_by (dCons (dVar 0) (dCons (dVar 1) dNil)))))
def m_does_give : List D → M D := runB b_does_give 2
end MC

end
section
namespace DL
open PySem PySem.Spec L2
/-! ### loops and comprehensions over typed items -/
theorem lcM_filT {A : Type} {t : Pat} {fb : DEnv → M Bool} {f : DEnv → M D} {ε : DEnv} {p : Pool} (g : A → D) (c : A → Bool) (y : A → D) : ∀ (xs : List A), (∀ x ∈ xs, ∃ ε1, t (g x) ε = some ε1 ∧ fb ε1 p = .ok (c x) p ∧ (c x = true → f ε1 p = .ok (y x) p)) → lcM t fb f (xs.map g) ε p = .ok ((xs.filter c).map y) p
  | [], _ => rfl
  | x :: xs, h => by
    obtain ⟨ε1, h1, h2, h3⟩ := h x List.mem_cons_self
    have ih := lcM_filT (p := p) g c y xs fun x hx => h x (List.mem_cons_of_mem _ hx)
    rw [List.map_cons, lcM_cons, h1, ofO_some, ok_thn, h2, ok_thn]
    cases e : c x with
    | true => simp [h3 e, ih, e]
    | false => simp [ih, e]
theorem lcM_mapT {A : Type} {t : Pat} {f : DEnv → M D} {ε : DEnv} {p : Pool} (g : A → D) (y : A → D) (xs : List A) (h : ∀ x ∈ xs, ∃ ε1, t (g x) ε = some ε1 ∧ f ε1 p = .ok (y x) p) : lcM t dYes f (xs.map g) ε p = .ok (xs.map y) p := by
  have := lcM_filT (t := t) (fb := dYes) (f := f) (ε := ε) (p := p) g (fun _ => true) y xs fun x hx => let ⟨ε1, h1, h2⟩ := h x hx; ⟨ε1, h1, rfl, fun _ => h2⟩
  rw [this, List.filter_eq_self.mpr fun _ _ => rfl]
theorem loopF_foldR {S A : Type} {t : Pat} {b : DEnv → M Fl} {ks : List Nat} {p : Pool} (env : S → DEnv) (g : A → D) (step : S → A → S) (J : List A → S → Prop) : ∀ (xs : List A) (s : S), J xs s →
    (∀ x r s, J (x :: r) s → J r (step s x) ∧ ∃ ε1 ε2, t (g x) (env s) = some ε1 ∧ b ε1 p = .ok (.nx ε2) p ∧ fg ks ε2 = env (step s x)) → loopF t b ks (xs.map g) (env s) p = .ok (.nx (env (xs.foldl step s))) p ∧ J [] (xs.foldl step s)
  | [], s, j, _ => ⟨rfl, j⟩
  | x :: xs, s, j, h => by
    obtain ⟨j', ε1, ε2, h1, h2, h3⟩ := h x xs s j
    obtain ⟨ih, j2⟩ := loopF_foldR env g step J xs (step s x) j' h
    refine ⟨?_, j2⟩
    rw [List.map_cons, loopF_cons, h1, ofO_some, ok_thn, h2, turn_nx, h3, ih]
    rfl
end DL
namespace MC
open PySem PySem.Spec L2 DL MW
/-! ### sums of fractions -/
def sm (l : List Rat) : Rat := l.foldl (· + ·) 0
theorem foldl_add (l : List Rat) : ∀ a : Rat, l.foldl (· + ·) a = a + sm l := by
  unfold sm
  induction l with
  | nil => intro a; exact (Rat.add_zero a).symm
  | cons x l ih => intro a; rw [List.foldl_cons, List.foldl_cons, ih, ih (0 + x)]; grind
@[simp] theorem sm_nil : sm [] = 0 := rfl
@[simp] theorem sm_cons (x : Rat) (l : List Rat) : sm (x :: l) = x + sm l := by
  show (x :: l).foldl (· + ·) 0 = _
  rw [List.foldl_cons, foldl_add]; grind
theorem sm_append (l r : List Rat) : sm (l ++ r) = sm l + sm r := by
  induction l with
  | nil => rw [List.nil_append, sm_nil]; grind
  | cons x l ih => rw [List.cons_append, sm_cons, sm_cons, ih]; grind
theorem sm_perm {l r : List Rat} (h : l.Perm r) : sm l = sm r := by
  induction h with
  | nil => rfl
  | cons x _ ih => rw [sm_cons, sm_cons, ih]
  | swap x y l => rw [sm_cons, sm_cons, sm_cons, sm_cons]; grind
  | trans _ _ a b => rw [a, b]
theorem sm_reverse (l : List Rat) : sm l.reverse = sm l := sm_perm (List.reverse_perm l)
theorem szR_zero : szR 1 0 := ⟨by decide, by decide⟩
theorem szR_one : szR 1 1 := ⟨by decide, by decide⟩
section
variable {a b : Rat} {n : Nat}
theorem plus_ok (ha : szR n a) (hb : szR n b) (hn : n ≤ 4000) (p : Pool) : MC.m_plus [frD a, frD b] p = .ok (frD (a + b)) p := by
  simp [MC.m_plus, MC.b_plus, runB_ap, mulD_sz hn ha.1 (den_abs hb), mulD_sz hn hb.1 (den_abs ha), mulD_sz hn (den_abs ha) (den_abs hb), plainof_ok (Int.mul_ne_zero (den_ne a) (den_ne b)) (bot_ok ha hb hn), add_eq]
theorem minus_ok (ha : szR n a) (hb : szR n b) (hn : n ≤ 4000) (p : Pool) : MC.m_minus [frD a, frD b] p = .ok (frD (a - b)) p := by
  simp [MC.m_minus, MC.b_minus, runB_ap, mulD_sz hn ha.1 (den_abs hb), mulD_sz hn hb.1 (den_abs ha), mulD_sz hn (den_abs ha) (den_abs hb), plainof_ok (Int.mul_ne_zero (den_ne a) (den_ne b)) (bot_ok ha hb hn), sub_eq]
theorem times_ok (ha : szR n a) (hb : szR n b) (hn : n ≤ 4000) (p : Pool) : MC.m_times [frD a, frD b] p = .ok (frD (a * b)) p := by
  simp [MC.m_times, MC.b_times, runB_ap, mulD_sz hn ha.1 hb.1, mulD_sz hn (den_abs ha) (den_abs hb), plainof_ok (Int.mul_ne_zero (den_ne a) (den_ne b)) (bot_ok ha hb hn), mul_eq]
theorem greater_ok (ha : szR n a) (hb : szR n b) (hn : n ≤ 4000) (p : Pool) : MC.m_greater_of [frD a, frD b] p = .ok (frD (if a < b then b else a)) p := by
  simp [MC.m_greater_of, MC.b_greater_of, runB_ap, lessc_ok ha hb hn]
  split <;> rfl
/-- what is above nought -/
def ab (q : Rat) : Rat := if q < 0 then 0 else q
theorem szR_ab {m : Nat} {q : Rat} (h : szR m q) (hm : 1 ≤ m) : szR m (ab q) := by
  unfold ab
  split
  · exact szR_zero.mono hm
  · exact h
theorem above_ok (ha : szR n a) (hn : n ≤ 4000) (h1 : 1 ≤ n) (p : Pool) : MC.m_above_of [frD a] p = .ok (frD (ab a)) p := by
  have h := greater_ok (b := 0) ha (szR_zero.mono h1) hn p
  rw [frD_zero] at h
  simp [MC.m_above_of, MC.b_above_of, runB_ap, h, ab]
end
theorem sum_step {m : Nat} {x : Rat} {r : List Rat} {s : Rat} (h : (∃ n, szR n s ∧ n + (m + 1) * (x :: r).length ≤ 4000) ∧ ∀ q ∈ x :: r, szR m q) : (∃ n, szR n (s + x) ∧ n + (m + 1) * r.length ≤ 4000) ∧ ∀ q ∈ r, szR m q := by
  obtain ⟨⟨n, h1, h2⟩, h3⟩ := h
  refine ⟨⟨n + m + 1, szR_add h1 (h3 x List.mem_cons_self), ?_⟩, fun q hq => h3 q (List.mem_cons_of_mem _ hq)⟩
  rw [List.length_cons, Nat.mul_add] at h2
  omega
theorem sm_size {m : Nat} : ∀ {qs : List Rat} {a : Rat} {n : Nat}, szR n a → (∀ q ∈ qs, szR m q) → szR (n + (m + 1) * qs.length) (qs.foldl (· + ·) a)
  | [], a, n, h, _ => by simpa using h
  | x :: qs, a, n, h, hs => by
    have := sm_size (qs := qs) (szR_add h (hs x List.mem_cons_self)) fun q hq => hs q (List.mem_cons_of_mem _ hq)
    rw [List.foldl_cons]
    refine this.mono ?_
    rw [List.length_cons, Nat.mul_add]
    omega
theorem szR_sm {m : Nat} {qs : List Rat} (h : ∀ q ∈ qs, szR m q) : szR (1 + (m + 1) * qs.length) (sm qs) := sm_size szR_zero h
theorem sum_ok {m : Nat} {qs : List Rat} (hs : ∀ q ∈ qs, szR m q) (hn : 1 + (m + 1) * qs.length ≤ 4000) (p : Pool) : MC.m_sum_of [.lst (qs.map frD)] p = .ok (frD (sm qs)) p := by
  have l := loopF_foldR (t := pN false 2) (b := MC.l_sum_of_1) (ks := [2]) (p := p) (fun s : Rat => [some (.lst (qs.map frD)), some (frD s), none]) frD (fun s x => s + x) (fun r s => (∃ n, szR n s ∧ n + (m + 1) * r.length ≤ 4000) ∧ ∀ q ∈ r, szR m q) qs 0 ⟨⟨1, szR_zero, hn⟩, hs⟩ (fun x r s j => by
    refine ⟨sum_step j, _, [some (.lst (qs.map frD)), some (frD (s + x)), some (frD x)], rfl, ?_, rfl⟩
    obtain ⟨⟨n, h1, h2⟩, h3⟩ := j
    have hx := h3 x List.mem_cons_self
    rw [List.length_cons, Nat.mul_add] at h2
    simp [MC.l_sum_of_1, plus_ok (h1.mono (show n ≤ n + m by omega)) (hx.mono (show m ≤ n + m by omega)) (by omega)])
  have l1 := l.1
  rw [frD_zero] at l1
  have e : qs.foldl (fun s x => s + x) 0 = sm qs := rfl
  rw [e] at l1
  simp [MC.m_sum_of, MC.b_sum_of, runB_ap, l1]
theorem lsum_ok {m : Nat} {qs : List Rat} (hs : ∀ q ∈ qs, szR m q) (hn : 1 + (m + 1) * qs.length ≤ 4000) (p : Pool) : MC.m__law_sum [.lst (qs.map frD)] p = .ok (frD (sm qs)) p := by
  have l := loopF_foldR (t := pN false 2) (b := MC.l__law_sum_1) (ks := [2]) (p := p) (fun s : Rat => [some (.lst (qs.map frD)), some (frD s), none]) frD (fun s x => s + x) (fun r s => (∃ n, szR n s ∧ n + (m + 1) * r.length ≤ 4000) ∧ ∀ q ∈ r, szR m q) qs 0 ⟨⟨1, szR_zero, hn⟩, hs⟩ (fun x r s j => by
    refine ⟨sum_step j, _, [some (.lst (qs.map frD)), some (frD (s + x)), some (frD x)], rfl, ?_, rfl⟩
    obtain ⟨⟨n, h1, h2⟩, h3⟩ := j
    have hx := h3 x List.mem_cons_self
    rw [List.length_cons, Nat.mul_add] at h2
    simp [MC.l__law_sum_1, lplus_ok (h1.mono (show n ≤ n + m by omega)) (hx.mono (show m ≤ n + m by omega)) (by omega)])
  have l1 := l.1
  rw [frD_zero] at l1
  have e : qs.foldl (fun s x => s + x) 0 = sm qs := rfl
  rw [e] at l1
  simp [MC.m__law_sum, MC.b__law_sum, runB_ap, tupO_of, l1]
/-! ### boards -/
abbrev Bd := List (Rat × Rat)
def tapD (x : Rat × Rat) : D := .tup [frD x.1, frD x.2]
def bdD (b : Bd) : D := .tup (b.map tapD)
def szB (m : Nat) (b : Bd) : Prop := ∀ x ∈ b, szR m x.1 ∧ szR m x.2
def okB (b : Bd) : Prop := (1 ≤ b.length ∧ b.length ≤ 8) ∧ ∀ x ∈ b, 0 < x.1
def tot (b : Bd) : Rat := sm (b.map fun x => x.1)
def heat (b : Bd) : Rat := sm (b.map fun x => x.1 * x.2)
def exc (b : Bd) (w : Rat) : Rat := sm (b.map fun x => x.1 * ab (x.2 - w))
def lck (b : Bd) (w : Rat) : Rat := sm (b.map fun x => x.1 * ab (w - x.2))
theorem checkB_ok {b : Bd} (h : okB b) (hs : szB 200 b) (p : Pool) : MW.m_check_board [bdD b] p = .ok .non p := by
  refine checkb_ok (by simpa using h.1.1) (by simpa using h.1.2) (fun d hd => ?_) p
  obtain ⟨x, hx, rfl⟩ := List.mem_map.mp hd
  exact ⟨x.1, x.2, rfl, (hs x hx).1, (hs x hx).2, h.2 x hx⟩
theorem all_map_sz {A : Type} {m : Nat} {xs : List A} {f : A → Rat} (h : ∀ x ∈ xs, szR m (f x)) : ∀ q ∈ xs.map f, szR m q := fun q hq => by
  obtain ⟨x, hx, rfl⟩ := List.mem_map.mp hq
  exact h x hx
theorem map_map_frD {A : Type} (xs : List A) (f : A → Rat) : xs.map (fun x => frD (f x)) = (xs.map f).map frD := by rw [List.map_map]; rfl
@[simp] theorem seqO_t (ds : List D) : seqO (.tup ds) = some ds := rfl
section
variable {b : Bd} {m n : Nat} {w : Rat}
theorem totalof_ok (hs : szB m b) (hl : b.length ≤ 8) (hm : m ≤ 400) (p : Pool) : MC.m_total_of [bdD b] p = .ok (frD (tot b)) p := by
  have l := lcM_mapT (t := pT [pN false 1, pN false 2]) (f := MC.e_total_of_1) (ε := [some (bdD b), none, none]) (p := p) tapD (fun x => frD x.1) b fun x hx => ⟨_, rfl, by simp [MC.e_total_of_1]⟩
  rw [map_map_frD b (fun x => x.1)] at l
  have s := sum_ok (m := m) (qs := b.map fun x => x.1) (all_map_sz fun x hx => (hs x hx).1) (by
    rw [List.length_map]
    have := Nat.mul_le_mul (show m + 1 ≤ 401 by omega) hl
    omega) p
  have h1 : (b.map tapD).length ≤ 10000 := by rw [List.length_map]; omega
  simp [MC.m_total_of, MC.b_total_of, runB_ap, bdD, show b.length ≤ 10000 by omega] at l ⊢
  rw [List.map_map] at s; rw [l]
  simp [s, tot]
theorem heatof_ok (hs : szB m b) (hl : b.length ≤ 8) (hm : m ≤ 200) (p : Pool) : MC.m_heat_of [bdD b] p = .ok (frD (heat b)) p := by
  have l := lcM_mapT (t := pT [pN false 1, pN false 2]) (f := MC.e_heat_of_1) (ε := [some (bdD b), none, none]) (p := p) tapD (fun x => frD (x.1 * x.2)) b fun x hx => ⟨_, rfl, by simp [MC.e_heat_of_1, times_ok (hs x hx).1 (hs x hx).2 (show m ≤ 4000 by omega)]⟩
  rw [map_map_frD b (fun x => x.1 * x.2)] at l
  have s := sum_ok (m := m + m) (qs := b.map fun x => x.1 * x.2) (all_map_sz fun x hx => szR_mul (hs x hx).1 (hs x hx).2) (by
    rw [List.length_map]
    have := Nat.mul_le_mul (show m + m + 1 ≤ 401 by omega) hl
    omega) p
  simp [MC.m_heat_of, MC.b_heat_of, runB_ap, bdD, show b.length ≤ 10000 by omega] at l ⊢
  rw [List.map_map] at s; rw [l]
  simp [s, heat]
theorem excof_ok (hs : szB m b) (hl : b.length ≤ 8) (hw : szR n w) (hm : 2 * m + n ≤ 490) (p : Pool) : MC.m_excess_of [bdD b, frD w] p = .ok (frD (exc b w)) p := by
  have l := lcM_mapT (t := pT [pN false 2, pN false 3]) (f := MC.e_excess_of_1) (ε := [some (bdD b), some (frD w), none, none]) (p := p) tapD (fun x => frD (x.1 * ab (x.2 - w))) b fun x hx => by
    obtain ⟨h1, h2⟩ := hs x hx
    have h3 := szR_sub h2 hw
    refine ⟨_, rfl, ?_⟩
    simp [MC.e_excess_of_1, minus_ok (h2.mono (show m ≤ m + n by omega)) (hw.mono (show n ≤ m + n by omega)) (by omega), above_ok h3 (by omega) (by omega), times_ok (h1.mono (show m ≤ m + n + 1 by omega)) (szR_ab h3 (by omega)) (by omega)]
  rw [map_map_frD b (fun x => x.1 * ab (x.2 - w))] at l
  have s := sum_ok (m := m + (m + n + 1)) (qs := b.map fun x => x.1 * ab (x.2 - w)) (all_map_sz fun x hx => szR_mul (hs x hx).1 (szR_ab (szR_sub (hs x hx).2 hw) (by omega))) (by
    rw [List.length_map]
    have := Nat.mul_le_mul (show m + (m + n + 1) + 1 ≤ 492 by omega) hl
    omega) p
  simp [MC.m_excess_of, MC.b_excess_of, runB_ap, bdD, show b.length ≤ 10000 by omega] at l ⊢
  rw [List.map_map] at s; rw [l]
  simp [s, exc]
theorem lckof_ok (hs : szB m b) (hl : b.length ≤ 8) (hw : szR n w) (hm : 2 * m + n ≤ 490) (p : Pool) : MC.m_lack_of [bdD b, frD w] p = .ok (frD (lck b w)) p := by
  have l := lcM_mapT (t := pT [pN false 2, pN false 3]) (f := MC.e_lack_of_1) (ε := [some (bdD b), some (frD w), none, none]) (p := p) tapD (fun x => frD (x.1 * ab (w - x.2))) b fun x hx => by
    obtain ⟨h1, h2⟩ := hs x hx
    have h3 := szR_sub hw h2
    refine ⟨_, rfl, ?_⟩
    simp [MC.e_lack_of_1, minus_ok (hw.mono (show n ≤ n + m by omega)) (h2.mono (show m ≤ n + m by omega)) (by omega), above_ok h3 (by omega) (by omega), times_ok (h1.mono (show m ≤ n + m + 1 by omega)) (szR_ab h3 (by omega)) (by omega)]
  rw [map_map_frD b (fun x => x.1 * ab (w - x.2))] at l
  have s := sum_ok (m := m + (n + m + 1)) (qs := b.map fun x => x.1 * ab (w - x.2)) (all_map_sz fun x hx => szR_mul (hs x hx).1 (szR_ab (szR_sub hw (hs x hx).2) (by omega))) (by
    rw [List.length_map]
    have := Nat.mul_le_mul (show m + (n + m + 1) + 1 ≤ 492 by omega) hl
    omega) p
  simp [MC.m_lack_of, MC.b_lack_of, runB_ap, bdD, show b.length ≤ 10000 by omega] at l ⊢
  rw [List.map_map] at s; rw [l]
  simp [s, lck]
theorem total_ok (h : okB b) (hs : szB m b) (hm : m ≤ 200) (p : Pool) : MC.m_total [bdD b] p = .ok (frD (tot b)) p := by
  simp [MC.m_total, MC.b_total, runB_ap, checkB_ok h (fun x hx => ⟨(hs x hx).1.mono hm, (hs x hx).2.mono hm⟩), totalof_ok hs h.1.2 (by omega)]
theorem wheat_ok (h : okB b) (hs : szB m b) (hm : m ≤ 200) (p : Pool) : MC.m_whole_heat [bdD b] p = .ok (frD (heat b)) p := by
  simp [MC.m_whole_heat, MC.b_whole_heat, runB_ap, checkB_ok h (fun x hx => ⟨(hs x hx).1.mono hm, (hs x hx).2.mono hm⟩), heatof_ok hs h.1.2 hm]
theorem checkw_ok (h : okB b) (hs : szB 200 b) (p : Pool) : MC.m_check_warmth [bdD b, frD w] p = .ok .non p := by
  simp [MC.m_check_warmth, MC.b_check_warmth, runB_ap, checkB_ok h hs, check_ok]
theorem excess_ok (h : okB b) (hs : szB m b) (hw : szR n w) (hm : m ≤ 200) (hmn : 2 * m + n ≤ 490) (p : Pool) : MC.m_excess [bdD b, frD w] p = .ok (frD (exc b w)) p := by
  simp [MC.m_excess, MC.b_excess, runB_ap, checkw_ok h (fun x hx => ⟨(hs x hx).1.mono hm, (hs x hx).2.mono hm⟩), excof_ok hs h.1.2 hw hmn]
theorem lack_ok (h : okB b) (hs : szB m b) (hw : szR n w) (hm : m ≤ 200) (hmn : 2 * m + n ≤ 490) (p : Pool) : MC.m_lack [bdD b, frD w] p = .ok (frD (lck b w)) p := by
  simp [MC.m_lack, MC.b_lack, runB_ap, checkw_ok h (fun x hx => ⟨(hs x hx).1.mono hm, (hs x hx).2.mono hm⟩), lckof_ok hs h.1.2 hw hmn]
end
end MC

end
section
namespace MC
open PySem PySem.Spec L2 DL MW
/-! ### places in rising order -/
section
variable (g : Nat → Rat)
def cntP (x : Rat) (L : List Nat) : Nat := (L.filter fun j => !decide (x < g j)).length
def insP (L : List Nat) (i : Nat) : List Nat := L.take (cntP g (g i) L) ++ [i] ++ L.drop (cntP g (g i) L)
def srt (L : List Nat) : Prop := L.Pairwise fun i j => g i ≤ g j
variable {g}
theorem cnt_split {x : Rat} : ∀ {L : List Nat}, srt g L → (∀ j ∈ L.take (cntP g x L), g j ≤ x) ∧ ∀ j ∈ L.drop (cntP g x L), x < g j
  | [], _ => ⟨fun _ h => by simp at h, fun _ h => by simp at h⟩
  | k :: L, h => by
    obtain ⟨h1, h2⟩ := List.pairwise_cons.mp h
    obtain ⟨i1, i2⟩ := cnt_split (x := x) h2
    by_cases c : x < g k
    · have e : cntP g x (k :: L) = 0 := by
        unfold cntP
        rw [List.length_eq_zero_iff, List.filter_eq_nil_iff]
        intro j hj
        rcases List.mem_cons.mp hj with rfl | hj
        · simp [c]
        · have := h1 j hj
          have : x < g j := by grind
          simp [this]
      rw [e]
      refine ⟨fun j hj => by simp at hj, fun j hj => ?_⟩
      rw [List.drop_zero] at hj
      rcases List.mem_cons.mp hj with rfl | hj
      · exact c
      · have := h1 j hj
        grind
    · have e : cntP g x (k :: L) = cntP g x L + 1 := by
        unfold cntP
        rw [List.filter_cons_of_pos (by simp [c]), List.length_cons]
      rw [e, List.take_succ_cons, List.drop_succ_cons]
      refine ⟨fun j hj => ?_, i2⟩
      rcases List.mem_cons.mp hj with rfl | hj
      · grind
      · exact i1 j hj
theorem insP_srt {L : List Nat} {i : Nat} (h : srt g L) : srt g (insP g L i) := by
  obtain ⟨h1, h2⟩ := cnt_split (x := g i) h
  unfold insP srt
  rw [List.append_assoc, List.pairwise_append, List.pairwise_append]
  refine ⟨List.Pairwise.sublist (List.take_sublist _ _) h, ⟨List.pairwise_singleton _ _, List.Pairwise.sublist (List.drop_sublist _ _) h, fun a ha b hb => ?_⟩, fun a ha b hb => ?_⟩
  · rw [List.mem_singleton] at ha
    subst ha
    have := h2 b hb
    grind
  · have a1 := h1 a ha
    rcases List.mem_append.mp hb with hb | hb
    · rw [List.mem_singleton] at hb
      subst hb
      exact a1
    · have := h2 b hb
      grind
theorem insP_perm {L : List Nat} {i : Nat} : (insP g L i).Perm (i :: L) := by
  unfold insP
  rw [List.append_assoc, List.singleton_append]
  refine List.perm_middle.trans ?_
  rw [List.take_append_drop]
theorem foldP_perm : ∀ (xs L : List Nat), (xs.foldl (insP g) L).Perm (L ++ xs)
  | [], L => by simp
  | x :: xs, L => by
    rw [List.foldl_cons]
    refine (foldP_perm xs _).trans ?_
    refine (List.Perm.append_right xs insP_perm).trans ?_
    rw [List.cons_append]
    exact List.perm_middle.symm
theorem foldP_srt : ∀ (xs L : List Nat), srt g L → srt g (xs.foldl (insP g) L)
  | [], L, h => h
  | x :: xs, L, h => foldP_srt xs _ (insP_srt h)
end
def gq (qs : List Rat) (i : Nat) : Rat := qs.getD i 0
def riseP (qs : List Rat) : List Nat := (List.range qs.length).foldl (insP (gq qs)) []
theorem riseP_perm (qs : List Rat) : (riseP qs).Perm (List.range qs.length) := foldP_perm _ _
theorem riseP_srt (qs : List Rat) : srt (gq qs) (riseP qs) := foldP_srt _ _ List.Pairwise.nil
theorem riseP_lt {qs : List Rat} {i : Nat} (h : i ∈ riseP qs) : i < qs.length := List.mem_range.mp ((riseP_perm qs).mem_iff.mp h)
theorem riseP_len (qs : List Rat) : (riseP qs).length = qs.length := by rw [(riseP_perm qs).length_eq, List.length_range]
theorem gq_get {qs : List Rat} {i : Nat} (h : i < qs.length) : qs[i]? = some (gq qs i) := by
  unfold gq
  rw [List.getD_eq_getElem?_getD, List.getElem?_eq_getElem h]
  rfl
theorem enum_range : ∀ (qs : List D) (k : Nat), enumF k qs = (List.range' k qs.length).map fun i => .tup [.int (i : Nat), (qs.getD (i - k) .non)]
  | [], _ => rfl
  | q :: qs, k => by
    have h := enum_range qs (k + 1)
    simp only [enumF, List.length_cons, List.range'_succ, List.map_cons, Nat.sub_self]
    refine congr (congrArg _ ?_) ?_
    · rfl
    · have e : ((k : Int) + 1) = ((k + 1 : Nat) : Int) := by omega
      rw [e, h]
      apply List.map_congr_left
      intro i hi
      have := List.mem_range'_1.mp hi
      have e2 : i - k = (i - (k + 1)) + 1 := by omega
      rw [e2]
      rfl
theorem enum_frD (qs : List Rat) : enumF 0 (qs.map frD) = (List.range qs.length).map fun i => .tup [.int (i : Nat), frD (gq qs i)] := by
  have h := enum_range (qs.map frD) 0
  have e : ((0 : Nat) : Int) = 0 := rfl
  rw [e] at h
  rw [h, List.length_map, ← List.range_eq_range']
  apply List.map_congr_left
  intro i hi
  have hi := List.mem_range.mp hi
  congr 3
  rw [Nat.sub_zero, List.getD_eq_getElem?_getD, List.getElem?_map, gq_get hi]
  rfl
theorem frees_map {A : Type} {g : A → D} (h : ∀ x, (g x).free = true) : ∀ xs : List A, D.frees (xs.map g) = true
  | [] => by simp
  | x :: xs => by simp [h x, frees_map h xs]
def nD (i : Nat) : D := .int (i : Nat)
theorem rise_ok {m : Nat} {qs : List Rat} (hs : ∀ q ∈ qs, szR m q) (hl : qs.length ≤ 1000) (hm : m ≤ 4000) (p : Pool) : MC.m_rising_places [.lst (qs.map frD)] p = .ok (.lst ((riseP qs).map nD)) p := by
  have l := loopF_foldR (t := pT [pN true 2, pN true 3]) (b := MC.l_rising_places_3) (ks := [2, 3, 4]) (p := p) (fun L : List Nat => [some (.lst (qs.map frD)), some (.lst (L.map nD)), none, none, none, none])
    (fun i : Nat => .tup [.int (i : Nat), frD (gq qs i)]) (insP (gq qs)) (fun r L => (∀ j ∈ L, j < qs.length) ∧ (∀ i ∈ r, i < qs.length) ∧ L.length + r.length ≤ 1000) (List.range qs.length) []
    ⟨fun _ h => by simp at h, fun i h => List.mem_range.mp h, by simpa using hl⟩ (fun i r L ⟨j1, j2, j3⟩ => by
    have hi := j2 i List.mem_cons_self
    rw [List.length_cons] at j3
    have hpm := insP_perm (g := gq qs) (L := L) (i := i)
    refine ⟨⟨fun j hj => ?_, fun j hj => j2 j (List.mem_cons_of_mem _ hj), by rw [hpm.length_eq, List.length_cons]; omega⟩, ?_⟩
    · rcases List.mem_cons.mp (hpm.mem_iff.mp hj) with rfl | h
      · exact hi
      · exact j1 j h
    · have hq : ∀ {k : Nat}, k < qs.length → szR m (gq qs k) := fun {k} hk => hs _ (List.mem_of_getElem? (gq_get hk))
      have f := lcM_filT (t := pN true 5) (fb := MC.c_rising_places_1) (f := MC.e_rising_places_2) (p := p) (ε := [some (.lst (qs.map frD)), some (.lst (L.map nD)), some (.int (i : Nat)), some (frD (gq qs i)), none, none]) nD (fun j => !decide (gq qs i < gq qs j)) nD L fun j hj => by
        have hj := j1 j hj
        have e : ixD (.lst (qs.map frD)) (.int (j : Nat)) = some (frD (gq qs j)) := by
          obtain ⟨x, e1, e2⟩ := atI_nat (l := qs.map frD) (i := (j : Nat)) (by omega) (by rw [List.length_map]; omega)
          rw [Int.toNat_natCast, List.getElem?_map, gq_get hj] at e2
          cases e2
          exact e1
        refine ⟨_, rfl, ?_, fun _ => ?_⟩
        · simp [MC.c_rising_places_1, nD, e, lessc_ok (hq hi) (hq hj) hm]
        · simp [MC.e_rising_places_2, nD]
      have hfl : (L.filter fun j => !decide (gq qs i < gq qs j)).length ≤ L.length := List.length_filter_le _ _
      refine ⟨_, [some (.lst (qs.map frD)), some (.lst ((insP (gq qs) L i).map nD)), some (.int (i : Nat)), some (frD (gq qs i)), some (.int (cntP (gq qs) (gq qs i) L : Nat)), none], by simp [free_frD]; rfl, ?_, rfl⟩
      have e1 : insD (L.map nD) [.int (cntP (gq qs) (gq qs i) L : Nat), .int (i : Nat)] = some ((insP (gq qs) L i).map nD) := by
        rw [insD_ok rfl (by rw [List.length_map]; omega) (by omega) (by unfold cntP; omega), Int.toNat_natCast]
        simp [insP, nD]
      have hlen : L.length ≤ 10000 := by omega
      have e2 : insD (L.map nD) [.int (L.filter fun j => !decide (gq qs i < gq qs j)).length, .int (i : Nat)] = some ((insP (gq qs) L i).map nD) := e1
      simp [MC.l_rising_places_3, hlen, f, e2]
      rfl)
  have l1 := l.1
  rw [← enum_frD, List.map_nil] at l1
  simp [MC.m_rising_places, MC.p_rising_places, MC.r_rising_places, runV_ap, l1, lstO_of]
  rfl
def wq (b : Bd) : List Rat := b.map fun x => x.2
def falP (b : Bd) : List Nat := (riseP (wq b)).reverse
section
variable {b : Bd} {m : Nat}
theorem rtaps_ok (hs : szB m b) (hl : b.length ≤ 1000) (hm : m ≤ 4000) (p : Pool) : MC.m_rising_taps [bdD b] p = .ok (.lst ((riseP (wq b)).map nD)) p := by
  have l := lcM_mapT (t := pT [pN false 1, pN false 2]) (f := MC.e_rising_taps_1) (ε := [some (bdD b), none, none]) (p := p) tapD (fun x => frD x.2) b fun x hx => ⟨_, rfl, by simp [MC.e_rising_taps_1]⟩
  have s := rise_ok (m := m) (qs := wq b) (all_map_sz fun x hx => (hs x hx).2) (by rw [wq, List.length_map]; exact hl) hm p
  unfold wq at s
  rw [List.map_map] at s
  simp [MC.m_rising_taps, MC.p_rising_taps, MC.r_rising_taps, runV_ap, bdD, show b.length ≤ 10000 by omega] at l ⊢
  rw [l]
  have e : (frD ∘ fun x : Rat × Rat => x.2) = fun x => frD x.2 := rfl
  rw [e] at s
  simp [s, wq]
/-! ### normal boards -/
theorem atI_last {α : Type} (l : List α) (y : α) : atI (l ++ [y]) (-1) = some y := by
  have h : ixN (l ++ [y]).length (-1) = some l.length := by
    unfold ixN
    rw [if_neg (by decide), List.length_append, List.length_singleton]
    split
    · congr 1
      omega
    · omega
  unfold atI
  rw [h]
  simp
theorem sh_taps (n : Nat) (N : Bd) : (N.map tapD).all (sh (n + 2)) = true := by
  rw [List.all_eq_true]
  intro d hd
  obtain ⟨x, _, rfl⟩ := List.mem_map.mp hd
  simp [tapD, frD]
theorem ne_nil_ok (N : Bd) : eqD true (.lst (N.map tapD)) (.lst []) = some (.bl (!decide (N = []))) := by
  have h : (sh 20 (.lst (N.map tapD)) && sh 20 (.lst [])) = true := by
    rw [sh_l, sh_taps]; rfl
  rw [eqD_eq _ _ _ h]
  cases N <;> simp
def normS (N : Bd) (x : Rat × Rat) : Bd := match N.getLast? with
  | some y => if y.2 = x.2 then N.dropLast ++ [(y.1 + x.1, x.2)] else N ++ [x]
  | none => N ++ [x]
def falT (b : Bd) : Bd := (falP b).map fun i => b.getD i (0, 0)
def normP (b : Bd) : Bd := (falT b).foldl normS []
theorem getD_mem {i : Nat} (h : i < b.length) : b[i]? = some (b.getD i (0, 0)) := by
  rw [List.getD_eq_getElem?_getD, List.getElem?_eq_getElem h]
  rfl
theorem falT_perm (b : Bd) : (falT b).Perm b := by
  have h : (falP b).Perm (List.range b.length) := by
    unfold falP
    refine (List.reverse_perm _).trans ((riseP_perm _).trans ?_)
    rw [wq, List.length_map]
  have h2 := h.map fun i => b.getD i (0, 0)
  have e : (List.range b.length).map (fun i => b.getD i (0, 0)) = b := by
    apply List.ext_getElem?
    intro i
    rw [List.getElem?_map]
    by_cases hi : i < b.length
    · rw [List.getElem?_range hi, getD_mem hi]; rfl
    · rw [List.getElem?_eq_none (by rw [List.length_range]; omega), List.getElem?_eq_none (by omega)]; rfl
  rw [e] at h2
  exact h2
theorem falT_fall (b : Bd) : (falT b).Pairwise fun x y => y.2 ≤ x.2 := by
  unfold falT falP
  rw [List.pairwise_map, List.pairwise_reverse]
  have h := riseP_srt (wq b)
  refine h.imp_of_mem fun {i j} hi hj hij => ?_
  have hi := riseP_lt hi
  have hj := riseP_lt hj
  rw [wq, List.length_map] at hi hj
  have e : ∀ {k : Nat}, k < b.length → gq (wq b) k = (b.getD k (0, 0)).2 := fun {k} hk => by
    have := gq_get (qs := wq b) (i := k) (by rw [wq, List.length_map]; exact hk)
    rw [wq, List.getElem?_map, getD_mem hk] at this
    exact (Option.some.inj this).symm
  rw [e hi, e hj] at hij
  exact hij
theorem norm_ok (hs : szB m b) (hl : b.length ≤ 8) (hm : m ≤ 400) (p : Pool) : MC.m_normal_of [bdD b] p = .ok (bdD (normP b)) p := by
  have l := loopF_foldR (t := pN true 2) (b := MC.l_normal_of_1) (ks := [2, 3, 4]) (p := p) (fun N : Bd => [some (bdD b), some (.lst (N.map tapD)), none, none, none])
    nD (fun N i => normS N (b.getD i (0, 0))) (fun r N => (∀ i ∈ r, i < b.length) ∧ (∃ n, (∀ x ∈ N, szR n x.1) ∧ 1 ≤ n ∧ n + (m + 1) * r.length ≤ 4000) ∧ (∀ x ∈ N, szR m x.2) ∧ N.length + r.length ≤ 8) (falP b) []
    ⟨fun i h => by
      have h := riseP_lt (List.mem_reverse.mp h)
      rw [wq, List.length_map] at h
      exact h, ⟨1, fun _ h => by simp at h, by omega, by
      have e : (falP b).length = b.length := by rw [falP, List.length_reverse, riseP_len, wq, List.length_map]
      rw [e]
      have := Nat.mul_le_mul (show m + 1 ≤ 401 by omega) hl
      omega⟩, fun _ h => by simp at h, by
      have e : (falP b).length = b.length := by rw [falP, List.length_reverse, riseP_len, wq, List.length_map]
      rw [e]; simpa using hl⟩ (fun i r N ⟨j1, ⟨n, j2, j3, j4⟩, j5, j6⟩ => by
    have hi := j1 i List.mem_cons_self
    have hb := getD_mem hi
    generalize hx : b.getD i (0, 0) = x at hb ⊢
    obtain ⟨s1, s2⟩ := hs x (List.mem_of_getElem? hb)
    rw [List.length_cons, Nat.mul_add] at j4
    rw [List.length_cons] at j6
    have eb : ixD (bdD b) (.int (i : Nat)) = some (tapD x) := by
      obtain ⟨y, e1, e2⟩ := atI_nat (l := b.map tapD) (i := (i : Nat)) (by omega) (by rw [List.length_map]; omega)
      rw [Int.toNat_natCast, List.getElem?_map, hb] at e2
      cases e2
      exact e1
    have hcons : (normS N x).length ≤ N.length + 1 := by
      unfold normS
      split
      · split
        · rw [List.length_append, List.length_dropLast, List.length_singleton]; omega
        · rw [List.length_append, List.length_singleton]; omega
      · rw [List.length_append, List.length_singleton]; omega
    rcases List.eq_nil_or_concat N with rfl | ⟨N', y, rfl⟩
    · have e0 : normS [] x = [x] := rfl
      rw [e0]
      refine ⟨⟨fun j hj => j1 j (List.mem_cons_of_mem _ hj), ⟨n + m, fun z hz => ?_, by omega, by omega⟩, fun z hz => ?_, by simp at j6 ⊢; omega⟩, ?_⟩
      · rw [List.mem_singleton] at hz; subst hz; exact s1.mono (by omega)
      · rw [List.mem_singleton] at hz; subst hz; exact s2
      · refine ⟨_, [some (bdD b), some (.lst [tapD x]), some (nD i), some (frD x.1), some (frD x.2)], rfl, ?_, rfl⟩
        have en := ne_nil_ok []
        simp [MC.l_normal_of_1, nD, eb, tapD, free_frD, lstO_of, tupO_of, appD_ok]
    · rw [List.concat_eq_append] at *
      have hy := List.mem_append_right N' (List.mem_singleton_self y)
      have sy1 := j2 y hy
      have sy2 := j5 y hy
      have eL : normS (N' ++ [y]) x = if y.2 = x.2 then N' ++ [(y.1 + x.1, x.2)] else N' ++ [y] ++ [x] := by
        unfold normS
        rw [List.getLast?_concat, List.dropLast_concat]
      have en := ne_nil_ok (N' ++ [y])
      have hne : ¬ N' ++ [y] = [] := by simp
      have eat : ixD (.lst ((N' ++ [y]).map tapD)) (.int (-1)) = some (tapD y) := by
        rw [List.map_append]
        exact atI_last _ _
      have hlen : (N' ++ [y]).length + r.length + 1 ≤ 8 := by omega
      rw [List.length_append, List.length_singleton] at hlen
      by_cases c : y.2 = x.2
      · rw [if_pos c] at eL
        rw [eL]
        refine ⟨⟨fun j hj => j1 j (List.mem_cons_of_mem _ hj), ⟨n + m + 1, fun z hz => ?_, by omega, by omega⟩, fun z hz => ?_, by simp; omega⟩, ?_⟩
        · rcases List.mem_append.mp hz with hz | hz
          · exact (j2 z (List.mem_append_left _ hz)).mono (by omega)
          · rw [List.mem_singleton] at hz; subst hz; exact szR_add sy1 s1
        · rcases List.mem_append.mp hz with hz | hz
          · exact j5 z (List.mem_append_left _ hz)
          · rw [List.mem_singleton] at hz; subst hz; exact s2
        · refine ⟨_, [some (bdD b), some (.lst ((N' ++ [(y.1 + x.1, x.2)]).map tapD)), some (nD i), some (frD (y.1 + x.1)), some (frD x.2)], rfl, ?_, rfl⟩
          have pl := fun p => plus_ok (a := y.1) (b := x.1) (n := n + m) (sy1.mono (by omega)) (s1.mono (by omega)) (by omega) p
          have h10 : N'.length < 10000 := by omega
          simp [nD, tapD, c] at eb en eat
          simp [MC.l_normal_of_1, nD, eb, tapD, free_frD, lstO_of, tupO_of, appD_ok, en, eat, c, sPopC_ap, pl, h10]
      · rw [if_neg c] at eL
        rw [eL]
        refine ⟨⟨fun j hj => j1 j (List.mem_cons_of_mem _ hj), ⟨n + m, fun z hz => ?_, by omega, by omega⟩, fun z hz => ?_, by simp; omega⟩, ?_⟩
        · rcases List.mem_append.mp hz with hz | hz
          · exact (j2 z hz).mono (by omega)
          · rw [List.mem_singleton] at hz; subst hz; exact s1.mono (by omega)
        · rcases List.mem_append.mp hz with hz | hz
          · exact j5 z hz
          · rw [List.mem_singleton] at hz; subst hz; exact s2
        · refine ⟨_, [some (bdD b), some (.lst ((N' ++ [y] ++ [x]).map tapD)), some (nD i), some (frD x.1), some (frD x.2)], rfl, ?_, rfl⟩
          have h10 : N'.length + 1 < 10000 := by omega
          simp [nD, tapD] at eb en eat
          simp [MC.l_normal_of_1, nD, eb, tapD, free_frD, lstO_of, tupO_of, appD_ok, en, eat, c, h10])
  have l1 := l.1
  have hf : D.frees (((riseP (wq b)).map nD).reverse) = true := by
    rw [← List.map_reverse]
    exact frees_map (fun _ => rfl) _
  have rt := rtaps_ok hs (show b.length ≤ 1000 by omega) (show m ≤ 4000 by omega) p
  have e1 : (falP b).map nD = ((riseP (wq b)).map nD).reverse := by rw [falP, List.map_reverse]
  rw [e1] at l1
  have e2 : (falP b).foldl (fun N i => normS N (b.getD i (0, 0))) [] = normP b := by
    unfold normP falT
    rw [List.foldl_map]
  rw [e2] at l1
  simp [MC.m_normal_of, MC.b_normal_of, runB_ap, lstO_of, rt, hf, l1]
  simp at l1
  rw [l1]
  simp [bdD]
end
end MC

end
section
namespace MC
open PySem PySem.Spec L2 DL MW
def fall (N : Bd) : Prop := N.Pairwise fun x y => y.2 < x.2
def wsum (φ : Rat → Rat) (N : Bd) : Rat := sm (N.map fun x => x.1 * φ x.2)
@[simp] theorem wsum_nil (φ : Rat → Rat) : wsum φ [] = 0 := rfl
@[simp] theorem wsum_cons (φ : Rat → Rat) (x : Rat × Rat) (N : Bd) : wsum φ (x :: N) = x.1 * φ x.2 + wsum φ N := by unfold wsum; rw [List.map_cons, sm_cons]
theorem wsum_append (φ : Rat → Rat) (N M : Bd) : wsum φ (N ++ M) = wsum φ N + wsum φ M := by unfold wsum; rw [List.map_append, sm_append]
theorem wsum_perm (φ : Rat → Rat) {N M : Bd} (h : N.Perm M) : wsum φ N = wsum φ M := sm_perm (h.map _)
theorem normS_nil (x : Rat × Rat) : normS [] x = [x] := rfl
theorem normS_app (N : Bd) (y x : Rat × Rat) : normS (N ++ [y]) x = if y.2 = x.2 then N ++ [(y.1 + x.1, x.2)] else N ++ [y] ++ [x] := by
  unfold normS
  rw [List.getLast?_concat, List.dropLast_concat]
/-- x may follow N: it is no warmer than the last -/
def fits (N : Bd) (x : Rat × Rat) : Prop := ∀ y, N.getLast? = some y → x.2 ≤ y.2
theorem normS_fall {N : Bd} {x : Rat × Rat} (h : fall N) (hx : fits N x) : fall (normS N x) := by
  rcases List.eq_nil_or_concat N with rfl | ⟨N', y, rfl⟩
  · exact List.pairwise_singleton _ _
  · rw [List.concat_eq_append] at *
    have hy := hx y (List.getLast?_concat)
    unfold fall at h ⊢
    rw [List.pairwise_append] at h
    obtain ⟨h1, _, h2⟩ := h
    rw [normS_app]
    split
    · rename_i c
      rw [List.pairwise_append]
      refine ⟨h1, List.pairwise_singleton _ _, fun a ha z hz => ?_⟩
      rw [List.mem_singleton] at hz
      subst hz
      have := h2 a ha y (List.mem_singleton_self y)
      show x.2 < a.2
      rw [← c]
      exact this
    · rename_i c
      rw [List.append_assoc, List.pairwise_append]
      have hlt : x.2 < y.2 := by grind
      refine ⟨h1, List.pairwise_cons.mpr ⟨fun z hz => ?_, List.pairwise_singleton _ _⟩, fun a ha z hz => ?_⟩
      · have hz : z = x := List.mem_singleton.mp hz
        subst hz; exact hlt
      · have q := h2 a ha y (List.mem_singleton_self y)
        rcases List.mem_cons.mp hz with rfl | hz
        · exact q
        · have hz : z = x := List.mem_singleton.mp hz
          subst hz; grind
theorem normS_mem {N : Bd} {x : Rat × Rat} {w : Rat} : (∃ z ∈ normS N x, z.2 = w) ↔ (∃ z ∈ N, z.2 = w) ∨ x.2 = w := by
  rcases List.eq_nil_or_concat N with rfl | ⟨N', y, rfl⟩
  · simp [normS_nil]
  · rw [List.concat_eq_append, normS_app]
    split
    · rename_i c
      simp only [List.mem_append, List.mem_singleton]
      constructor
      · rintro ⟨z, hz | rfl, e⟩
        · exact .inl ⟨z, .inl hz, e⟩
        · exact .inr e
      · rintro (⟨z, hz | rfl, e⟩ | e)
        · exact ⟨z, .inl hz, e⟩
        · exact ⟨_, .inr rfl, c.symm.trans e⟩
        · exact ⟨_, .inr rfl, e⟩
    · simp only [List.mem_append, List.mem_singleton]
      constructor
      · rintro ⟨z, (hz | rfl) | rfl, e⟩
        · exact .inl ⟨z, .inl hz, e⟩
        · exact .inl ⟨_, .inr rfl, e⟩
        · exact .inr e
      · rintro (⟨z, hz | rfl, e⟩ | e)
        · exact ⟨z, .inl (.inl hz), e⟩
        · exact ⟨_, .inl (.inr rfl), e⟩
        · exact ⟨_, .inr rfl, e⟩
theorem normS_sum (φ : Rat → Rat) {N : Bd} {x : Rat × Rat} : wsum φ (normS N x) = wsum φ N + x.1 * φ x.2 := by
  rcases List.eq_nil_or_concat N with rfl | ⟨N', y, rfl⟩
  · simp [normS_nil]; grind
  · rw [List.concat_eq_append, normS_app]
    split
    · rename_i c
      rw [wsum_append, wsum_append]
      simp only [wsum_cons, wsum_nil]
      rw [c]
      grind
    · rw [wsum_append]
      simp only [wsum_cons, wsum_nil]
      grind
theorem normS_pos {N : Bd} {x : Rat × Rat} (h : ∀ z ∈ N, 0 < z.1) (hx : 0 < x.1) : ∀ z ∈ normS N x, 0 < z.1 := by
  rcases List.eq_nil_or_concat N with rfl | ⟨N', y, rfl⟩
  · simpa [normS_nil] using hx
  · rw [List.concat_eq_append] at *
    rw [normS_app]
    have hy := h y (by simp)
    intro z hz
    split at hz
    · rcases List.mem_append.mp hz with hz | hz
      · exact h z (List.mem_append_left _ hz)
      · rw [List.mem_singleton] at hz; subst hz; show 0 < y.1 + x.1; grind
    · rcases List.mem_append.mp hz with hz | hz
      · exact h z hz
      · rw [List.mem_singleton] at hz; subst hz; exact hx
theorem normS_len {N : Bd} {x : Rat × Rat} : (normS N x).length ≤ N.length + 1 ∧ 1 ≤ (normS N x).length := by
  rcases List.eq_nil_or_concat N with rfl | ⟨N', y, rfl⟩
  · simp [normS_nil]
  · rw [List.concat_eq_append, normS_app]
    split <;> simp
theorem normS_last {N : Bd} {x : Rat × Rat} : ∃ y, (normS N x).getLast? = some y ∧ y.2 = x.2 := by
  rcases List.eq_nil_or_concat N with rfl | ⟨N', y, rfl⟩
  · exact ⟨x, rfl, rfl⟩
  · rw [List.concat_eq_append, normS_app]
    split
    · exact ⟨_, List.getLast?_concat, rfl⟩
    · exact ⟨x, List.getLast?_concat, rfl⟩
theorem foldS (T : Bd) : ∀ N : Bd, T.Pairwise (fun x y => y.2 ≤ x.2) → fall N → (∀ x ∈ T, fits N x) →
    fall (T.foldl normS N) ∧ (∀ w, (∃ z ∈ T.foldl normS N, z.2 = w) ↔ (∃ z ∈ N, z.2 = w) ∨ ∃ z ∈ T, z.2 = w) ∧ (∀ φ, wsum φ (T.foldl normS N) = wsum φ N + wsum φ T) ∧
    ((∀ z ∈ N, 0 < z.1) → (∀ z ∈ T, 0 < z.1) → ∀ z ∈ T.foldl normS N, 0 < z.1) ∧ (T.foldl normS N).length ≤ N.length + T.length ∧ (1 ≤ N.length + T.length → 1 ≤ (T.foldl normS N).length) := by
  induction T with
  | nil => intro N _ h _; exact ⟨h, fun w => by simp, fun φ => by simp [Rat.add_zero], fun h _ => h, by simp, by simp⟩
  | cons x T ih =>
    intro N hT h hf
    obtain ⟨t1, t2⟩ := List.pairwise_cons.mp hT
    obtain ⟨i1, i2, i3, i4, i5, i6⟩ := ih (normS N x) t2 (normS_fall h (hf x List.mem_cons_self)) (fun z hz y hy => by
      obtain ⟨y', e1, e2⟩ := normS_last (N := N) (x := x)
      rw [e1] at hy
      cases hy
      rw [e2]
      exact t1 z hz)
    have hl := normS_len (N := N) (x := x)
    rw [List.foldl_cons]
    refine ⟨i1, fun w => ?_, fun φ => ?_, fun a b => i4 (normS_pos a (b x List.mem_cons_self)) fun z hz => b z (List.mem_cons_of_mem _ hz), by rw [List.length_cons]; omega, fun _ => i6 (by omega)⟩
    · rw [i2, normS_mem]
      simp only [List.mem_cons]
      constructor
      · rintro ((h | h) | ⟨z, hz, e⟩)
        · exact .inl h
        · exact .inr ⟨x, .inl rfl, h⟩
        · exact .inr ⟨z, .inr hz, e⟩
      · rintro (h | ⟨z, rfl | hz, e⟩)
        · exact .inl (.inl h)
        · exact .inl (.inr e)
        · exact .inr ⟨z, hz, e⟩
    · rw [i3, normS_sum, wsum_cons]; grind
section
variable (b : Bd)
theorem normP_all : fall (normP b) ∧ (∀ w, (∃ z ∈ normP b, z.2 = w) ↔ ∃ z ∈ b, z.2 = w) ∧ (∀ φ, wsum φ (normP b) = wsum φ b) ∧ ((∀ z ∈ b, 0 < z.1) → ∀ z ∈ normP b, 0 < z.1) ∧ (normP b).length ≤ b.length ∧ (1 ≤ b.length → 1 ≤ (normP b).length) := by
  have hp := falT_perm b
  obtain ⟨h1, h2, h3, h4, h5, h6⟩ := foldS (falT b) [] (falT_fall b) List.Pairwise.nil (fun x _ y hy => by cases hy)
  refine ⟨h1, fun w => ?_, fun φ => ?_, fun h => h4 (fun z hz => by cases hz) fun z hz => h z (hp.mem_iff.mp hz), ?_, fun h => ?_⟩
  · rw [normP, h2]
    constructor
    · rintro (⟨z, hz, _⟩ | ⟨z, hz, e⟩)
      · cases hz
      · exact ⟨z, hp.mem_iff.mp hz, e⟩
    · rintro ⟨z, hz, e⟩
      exact .inr ⟨z, hp.mem_iff.mpr hz, e⟩
  · rw [normP, h3, wsum_perm φ hp, wsum_nil]; grind
  · have := hp.length_eq
    unfold normP
    simp at h5
    omega
  · have := hp.length_eq
    unfold normP
    refine h6 ?_
    simp
    omega
/-- all unlike warmths, falling -/
def rowsP : List Rat := (normP b).map fun x => x.2
def falls (l : List Rat) : Prop := l.Pairwise fun x y => y < x
theorem rows_fall : falls (rowsP b) := by
  unfold falls rowsP
  rw [List.pairwise_map]
  exact (normP_all b).1
theorem rows_mem (w : Rat) : w ∈ rowsP b ↔ ∃ z ∈ b, z.2 = w := by
  rw [← (normP_all b).2.1 w]
  unfold rowsP
  rw [List.mem_map]
theorem rows_len (h : 1 ≤ b.length) : 1 ≤ (rowsP b).length ∧ (rowsP b).length ≤ b.length := by
  unfold rowsP
  rw [List.length_map]
  exact ⟨(normP_all b).2.2.2.2.2 h, (normP_all b).2.2.2.2.1⟩
end
/-- two falling lists of the same members are the same -/
theorem falls_uniq : ∀ {l r : List Rat}, falls l → falls r → (∀ w, w ∈ l ↔ w ∈ r) → l = r
  | [], [], _, _, _ => rfl
  | [], y :: r, _, _, h => by have := (h y).mpr List.mem_cons_self; cases this
  | x :: l, [], _, _, h => by have := (h x).mp List.mem_cons_self; cases this
  | x :: l, y :: r, h1, h2, h => by
    obtain ⟨a1, a2⟩ := List.pairwise_cons.mp h1
    obtain ⟨b1, b2⟩ := List.pairwise_cons.mp h2
    have e : x = y := by
      rcases List.mem_cons.mp ((h x).mp List.mem_cons_self) with e | hx
      · exact e
      · rcases List.mem_cons.mp ((h y).mpr List.mem_cons_self) with e | hy
        · exact e.symm
        · have q1 := b1 x hx
          have q2 := a1 y hy
          grind
    subst e
    rw [falls_uniq a2 b2 fun w => ?_]
    constructor
    · intro hw
      rcases List.mem_cons.mp ((h w).mp (List.mem_cons_of_mem _ hw)) with e | h'
      · have := a1 w hw; grind
      · exact h'
    · intro hw
      rcases List.mem_cons.mp ((h w).mpr (List.mem_cons_of_mem _ hw)) with e | h'
      · have := b1 w hw; grind
      · exact h'
section
variable {b : Bd} {m : Nat}
theorem warmthsof_ok (hs : szB m b) (hl : b.length ≤ 8) (hm : m ≤ 400) (p : Pool) : MC.m_warmths_of [bdD b] p = .ok (.lst ((rowsP b).map frD)) p := by
  have l := lcM_mapT (t := pT [pN false 1, pN false 2]) (f := MC.e_warmths_of_1) (ε := [some (bdD b), none, none]) (p := p) tapD (fun x => frD x.2) (normP b) fun x hx => ⟨_, rfl, by simp [MC.e_warmths_of_1]⟩
  have n := norm_ok hs hl hm p
  have hl2 := (normP_all b).2.2.2.2.1
  have e : (normP b).map (fun x => frD x.2) = (rowsP b).map frD := by rw [rowsP, List.map_map]; rfl
  rw [e] at l
  have n2 : MC.m_normal_of [bdD b] p = .ok (.tup ((normP b).map tapD)) p := n
  simp [MC.m_warmths_of, MC.p_warmths_of, MC.r_warmths_of, runV_ap, n2, show (normP b).length ≤ 10000 by omega, l]
theorem warmths_ok (h : okB b) (hs : szB m b) (hm : m ≤ 200) (p : Pool) : MC.m_warmths [bdD b] p = .ok (.tup ((rowsP b).map frD)) p := by
  simp [MC.m_warmths, MC.b_warmths, runB_ap, checkB_ok h (fun x hx => ⟨(hs x hx).1.mono hm, (hs x hx).2.mono hm⟩), warmthsof_ok hs h.1.2 (show m ≤ 400 by omega)]
end
end MC

end
section
namespace MC
open PySem PySem.Spec L2 DL MW
theorem taps_bd {m : Nat} : ∀ {ds : List D}, (∀ d ∈ ds, ∃ f w : Rat, d = .tup [frD f, frD w] ∧ szR m f ∧ szR m w ∧ 0 < f) → ∃ b : Bd, ds = b.map tapD ∧ szB m b ∧ ∀ x ∈ b, 0 < x.1
  | [], _ => ⟨[], rfl, fun _ h => (by cases h), fun _ h => by cases h⟩
  | d :: ds, h => by
    obtain ⟨f, w, e, h1, h2, h3⟩ := h d List.mem_cons_self
    obtain ⟨b, e2, a1, a2⟩ := taps_bd (m := m) (ds := ds) fun d hd => h d (List.mem_cons_of_mem _ hd)
    refine ⟨(f, w) :: b, by rw [e, e2]; rfl, fun x hx => ?_, fun x hx => ?_⟩
    · rcases List.mem_cons.mp hx with rfl | hx
      · exact ⟨h1, h2⟩
      · exact a1 x hx
    · rcases List.mem_cons.mp hx with rfl | hx
      · exact h3
      · exact a2 x hx
/-! ### excess and lack -/
theorem ab_nn (q : Rat) : 0 ≤ ab q := by unfold ab; split <;> grind
theorem ab_sub (q : Rat) : ab q - ab (-q) = q := by unfold ab; split <;> split <;> grind
theorem ab_mono {q r : Rat} (h : q ≤ r) : ab q ≤ ab r := by unfold ab; split <;> split <;> grind
theorem ab_le {q : Rat} (h : q ≤ 0) : ab q = 0 := by unfold ab; split <;> grind
theorem exc_lck (b : Bd) (w : Rat) : exc b w - lck b w = heat b - w * tot b := by
  unfold exc lck heat tot
  induction b with
  | nil => simp
  | cons x b ih =>
    simp only [List.map_cons, sm_cons]
    have h := ab_sub (x.2 - w)
    have e : -(x.2 - w) = w - x.2 := by grind
    rw [e] at h
    have : x.1 * ab (x.2 - w) - x.1 * ab (w - x.2) = x.1 * x.2 - x.1 * w := by
      have e : ab (x.2 - w) = ab (w - x.2) + (x.2 - w) := by grind
      rw [e]; grind
    grind
theorem mul_le_l {a q r : Rat} (ha : 0 ≤ a) (h : q ≤ r) : a * q ≤ a * r := Rat.mul_le_mul_of_nonneg_left h ha
theorem exc_mono {b : Bd} (hb : ∀ x ∈ b, 0 < x.1) {v w : Rat} (h : v ≤ w) : exc b w ≤ exc b v := by
  unfold exc
  induction b with
  | nil => simp
  | cons x b ih =>
    simp only [List.map_cons, sm_cons]
    have h1 := ih fun y hy => hb y (List.mem_cons_of_mem _ hy)
    have h2 := mul_le_l (show 0 ≤ x.1 by have := hb x List.mem_cons_self; grind) (ab_mono (show x.2 - w ≤ x.2 - v by grind))
    grind
theorem lck_mono {b : Bd} (hb : ∀ x ∈ b, 0 < x.1) {v w : Rat} (h : v ≤ w) : lck b v ≤ lck b w := by
  unfold lck
  induction b with
  | nil => simp
  | cons x b ih =>
    simp only [List.map_cons, sm_cons]
    have h1 := ih fun y hy => hb y (List.mem_cons_of_mem _ hy)
    have h2 := mul_le_l (show 0 ≤ x.1 by have := hb x List.mem_cons_self; grind) (ab_mono (show v - x.2 ≤ w - x.2 by grind))
    grind
theorem exc_zero {b : Bd} {w : Rat} (h : ∀ x ∈ b, x.2 ≤ w) : exc b w = 0 := by
  unfold exc
  induction b with
  | nil => rfl
  | cons x b ih =>
    simp only [List.map_cons, sm_cons]
    rw [ih fun y hy => h y (List.mem_cons_of_mem _ hy), ab_le (by have := h x List.mem_cons_self; grind)]
    grind
theorem lck_zero {b : Bd} {w : Rat} (h : ∀ x ∈ b, w ≤ x.2) : lck b w = 0 := by
  unfold lck
  induction b with
  | nil => rfl
  | cons x b ih =>
    simp only [List.map_cons, sm_cons]
    rw [ih fun y hy => h y (List.mem_cons_of_mem _ hy), ab_le (by have := h x List.mem_cons_self; grind)]
    grind
/-- no warmth lies between u and v -/
theorem exc_mid {b : Bd} {u v : Rat} (huv : v ≤ u) (h : ∀ x ∈ b, u ≤ x.2 ∨ x.2 ≤ v) : exc b ((u + v) * (1 / 2)) = (exc b u + exc b v) * (1 / 2) := by
  unfold exc
  induction b with
  | nil => simp; grind
  | cons x b ih =>
    simp only [List.map_cons, sm_cons]
    rw [ih fun y hy => h y (List.mem_cons_of_mem _ hy)]
    have key : ab (x.2 - (u + v) * (1 / 2)) = (ab (x.2 - u) + ab (x.2 - v)) * (1 / 2) := by
      unfold ab
      rcases h x List.mem_cons_self with h | h <;> split <;> split <;> split <;> grind
    rw [key]
    grind
theorem lck_mid {b : Bd} {u v : Rat} (huv : v ≤ u) (h : ∀ x ∈ b, u ≤ x.2 ∨ x.2 ≤ v) : lck b ((u + v) * (1 / 2)) = (lck b u + lck b v) * (1 / 2) := by
  unfold lck
  induction b with
  | nil => simp; grind
  | cons x b ih =>
    simp only [List.map_cons, sm_cons]
    rw [ih fun y hy => h y (List.mem_cons_of_mem _ hy)]
    have key : ab ((u + v) * (1 / 2) - x.2) = (ab (u - x.2) + ab (v - x.2)) * (1 / 2) := by
      unfold ab
      rcases h x List.mem_cons_self with h | h <;> split <;> split <;> split <;> grind
    rw [key]
    grind
end MC

end
section
namespace MC
open PySem PySem.Spec L2 DL MW
/-! ### settings, mixes -/
def stD (v : List Rat) : D := .tup (v.map frD)
def mxD (x : Rat × Rat) : D := .tup [frD x.1, frD x.2]
def mixH (b : Bd) (v : List Rat) : Rat := sm ((v.zip b).map fun z => z.1 * z.2.2)
def mixP (b : Bd) (v : List Rat) : Rat × Rat := (sm v, mixH b v)
theorem sum_okD {m : Nat} {qs : List Rat} {d : D} (hd : seqO d = some (qs.map frD)) (hs : ∀ q ∈ qs, szR m q) (hn : 1 + (m + 1) * qs.length ≤ 4000) (p : Pool) : MC.m_sum_of [d] p = .ok (frD (sm qs)) p := by
  have l := loopF_foldR (t := pN false 2) (b := MC.l_sum_of_1) (ks := [2]) (p := p) (fun s : Rat => [some d, some (frD s), none]) frD (fun s x => s + x) (fun r s => (∃ n, szR n s ∧ n + (m + 1) * r.length ≤ 4000) ∧ ∀ q ∈ r, szR m q) qs 0 ⟨⟨1, szR_zero, hn⟩, hs⟩ (fun x r s j => by
    refine ⟨sum_step j, _, [some d, some (frD (s + x)), some (frD x)], rfl, ?_, rfl⟩
    obtain ⟨⟨n, h1, h2⟩, h3⟩ := j
    have hx := h3 x List.mem_cons_self
    rw [List.length_cons, Nat.mul_add] at h2
    simp [MC.l_sum_of_1, plus_ok (h1.mono (show n ≤ n + m by omega)) (hx.mono (show m ≤ n + m by omega)) (by omega)])
  have l1 := l.1
  rw [frD_zero] at l1
  have e : qs.foldl (fun s x => s + x) 0 = sm qs := rfl
  rw [e] at l1
  simp [MC.m_sum_of, MC.b_sum_of, runB_ap, hd, l1]
theorem lsum_okD {m : Nat} {qs : List Rat} {d : D} (hd : seqO d = some (qs.map frD)) (hs : ∀ q ∈ qs, szR m q) (hn : 1 + (m + 1) * qs.length ≤ 4000) (p : Pool) : MC.m__law_sum [d] p = .ok (frD (sm qs)) p := by
  have l := loopF_foldR (t := pN false 2) (b := MC.l__law_sum_1) (ks := [2]) (p := p) (fun s : Rat => [some d, some (frD s), none]) frD (fun s x => s + x) (fun r s => (∃ n, szR n s ∧ n + (m + 1) * r.length ≤ 4000) ∧ ∀ q ∈ r, szR m q) qs 0 ⟨⟨1, szR_zero, hn⟩, hs⟩ (fun x r s j => by
    refine ⟨sum_step j, _, [some d, some (frD (s + x)), some (frD x)], rfl, ?_, rfl⟩
    obtain ⟨⟨n, h1, h2⟩, h3⟩ := j
    have hx := h3 x List.mem_cons_self
    rw [List.length_cons, Nat.mul_add] at h2
    simp [MC.l__law_sum_1, lplus_ok (h1.mono (show n ≤ n + m by omega)) (hx.mono (show m ≤ n + m by omega)) (by omega)])
  have l1 := l.1
  rw [frD_zero] at l1
  have e : qs.foldl (fun s x => s + x) 0 = sm qs := rfl
  rw [e] at l1
  simp [MC.m__law_sum, MC.b__law_sum, runB_ap, tupO_of, hd, l1]
theorem zip_map (v : List Rat) (b : Bd) : zipF (v.map frD) (b.map tapD) = (v.zip b).map fun z => .tup [frD z.1, tapD z.2] := by
  unfold zipF
  induction v generalizing b with
  | nil => rfl
  | cons x v ih =>
    cases b with
    | nil => rfl
    | cons y b => simp [ih]
theorem zip_swap_mem {A B : Type} {xs : List A} {ys : List B} {z : A × B} (h : z ∈ xs.zip ys) : (z.2, z.1) ∈ ys.zip xs := by
  obtain ⟨i, hi⟩ := List.mem_iff_getElem?.mp h
  obtain ⟨h1, h2⟩ := List.getElem?_zip_eq_some.mp hi
  exact List.mem_iff_getElem?.mpr ⟨i, List.getElem?_zip_eq_some.mpr ⟨h2, h1⟩⟩
theorem zip_mapself {A B : Type} (f : A → B) : ∀ xs : List A, (xs.map f).zip xs = xs.map fun x => (f x, x)
  | [] => rfl
  | x :: xs => by simp [zip_mapself f xs]
theorem len_le_mul {a l c : Nat} (h : l ≤ 8) (ha : a * 8 ≤ c) : a * l ≤ c := Nat.le_trans (Nat.mul_le_mul_left _ h) ha
section
variable {b : Bd} {m n : Nat} {v : List Rat}
theorem zip_sz (hs : szB m b) (hv : ∀ q ∈ v, szR n q) {z : Rat × (Rat × Rat)} (hz : z ∈ v.zip b) : szR n z.1 ∧ szR m z.2.1 ∧ szR m z.2.2 := by
  obtain ⟨h1, h2⟩ := List.of_mem_zip (a := z.1) (b := z.2) hz
  exact ⟨hv _ h1, hs _ h2⟩
theorem mixby_ok (hs : szB m b) (hl : b.length ≤ 8) (hv : ∀ q ∈ v, szR n q) (hvl : v.length = b.length) (hmn : m + n ≤ 498) (p : Pool) : MC.m_mix_by [bdD b, stD v] p = .ok (mxD (mixP b v)) p := by
  have hz : (v.zip b).length ≤ 8 := by rw [List.length_zip]; omega
  have l := lcM_mapT (t := pT [pN false 3, pT [pN false 4, pN false 5]]) (f := MC.e_mix_by_1) (ε := [some (bdD b), some (stD v), none, none, none, none]) (p := p) (fun z : Rat × (Rat × Rat) => .tup [frD z.1, tapD z.2]) (fun z => frD (z.1 * z.2.2)) (v.zip b) fun z hz => by
    obtain ⟨h1, _, h2⟩ := zip_sz hs hv hz
    refine ⟨_, rfl, ?_⟩
    simp [MC.e_mix_by_1, times_ok (h1.mono (show n ≤ n + m by omega)) (h2.mono (show m ≤ n + m by omega)) (by omega)]
  rw [map_map_frD (v.zip b) (fun z => z.1 * z.2.2)] at l
  have s1 := sum_okD (m := n + m) (d := .lst (((v.zip b).map fun z => z.1 * z.2.2).map frD)) rfl (all_map_sz fun z hz => szR_mul (zip_sz hs hv hz).1 (zip_sz hs hv hz).2.2) (by
    rw [List.length_map]
    have := len_le_mul hz (show (n + m + 1) * 8 ≤ 3999 by omega)
    omega) p
  have s2 := sum_okD (m := n) (d := stD v) rfl hv (by
    have := len_le_mul (a := n + 1) (show v.length ≤ 8 by omega) (show (n + 1) * 8 ≤ 3999 by omega)
    omega) p
  have zz : zipD [stD v, bdD b] = some ((v.zip b).map fun z => .tup [frD z.1, tapD z.2]) := by rw [← zip_map]; rfl
  have lz : (v.zip b).length ≤ 10000 := by omega
  simp [-List.length_zip] at l
  simp [MC.m_mix_by, MC.b_mix_by, runB_ap, zz, lz, -List.length_zip]
  rw [l]
  rw [List.map_map] at s1
  simp [s1, s2, tupO_of, mxD, mixP, mixH]
def okS (b : Bd) (v : List Rat) : Prop := v.length = b.length ∧ ∀ z ∈ v.zip b, 0 ≤ z.1 ∧ z.1 ≤ z.2.1
theorem fair_st (h : ∀ q ∈ v, szR 200 q) : fair (stD v) = true := by
  unfold stD
  rw [fair_tup, List.all_eq_true]
  intro d hd
  obtain ⟨q, hq, rfl⟩ := List.mem_map.mp hd
  exact fair_frD (h q hq)
theorem wrongin_ok (hb : okB b) (hs : szB 200 b) (hv : ∀ q ∈ v, szR 200 q) (h : okS b v) (p : Pool) : MW.m_wrong_in_setting [bdD b, stD v] p = .ok (.lst []) p := by
  have tu := tupof_ok (fair_kn (fair_st hv)) b.length p
  have hl := hb.1.2
  have l : lcM (pT [pN false 2, pT [pN false 3, pN false 4]]) MW.c_wrong_in_setting_1 MW.e_wrong_in_setting_2 (enumF 0 (zipF (b.map tapD) (v.map frD))) [some (bdD b), some (stD v), none, none, none] p = .ok (((enumF 0 (zipF (b.map tapD) (v.map frD))).filter badP).map idxP) p :=
    lcM_map badP idxP _ fun d hd => by
      obtain ⟨i, t, e, rfl, ht, hee⟩ := enum_mem hd
      obtain ⟨x, hx, rfl⟩ := List.mem_map.mp ht
      obtain ⟨q, hq, rfl⟩ := List.mem_map.mp hee
      refine ⟨[some (bdD b), some (stD v), some (.int i), some (tapD x), some (frD q)], rfl, ?_, fun _ => ?_⟩
      · simp [MW.c_wrong_in_setting_1, tapD, flow_ok (hs x hx).1 (fair_frD (hv q hq)), badP, tapF]
      · simp [MW.e_wrong_in_setting_2, idxP]
  have em : (enumF 0 (zipF (b.map tapD) (v.map frD))).filter badP = [] := by
    rw [badP_all, List.all_eq_true]
    intro x hx
    rw [List.zip_map] at hx
    obtain ⟨z, hz, rfl⟩ := List.mem_map.mp hx
    have hz' : (z.2, z.1) ∈ v.zip b := zip_swap_mem hz
    obtain ⟨a1, a2⟩ := h.2 _ hz'
    simp only [Prod.map, okFl, nnF_frD, valF_frD, tapD, tapF]
    simp only [Bool.and_eq_true, decide_eq_true_eq, Bool.not_eq_true', decide_eq_false_iff_not]
    exact ⟨a1, by grind⟩
  rw [em, List.map_nil] at l
  have ln : (enumF 0 (zipF (b.map tapD) (v.map frD))).length ≤ 10000 := by
    rw [enumF_len, zipF, List.length_zipWith, List.length_map, List.length_map]
    omega
  have e1 : ezD [bdD b, stD v] = some (enumF 0 (zipF (b.map tapD) (v.map frD))) := rfl
  have e2 : lenD [bdD b] = some (.int b.length) := by
    have := lenD_t (b.map tapD)
    rw [List.length_map] at this
    exact this
  have tu : MW.m_is_tuple_of [stD v, .int b.length] p = .ok (.bl true) p := tu.trans (by unfold stD; simp [h.1])
  simp [MW.m_wrong_in_setting, MW.b_wrong_in_setting, runB_ap, tu, e1, e2, ln, l]
  rfl
theorem checkset_ok (hb : okB b) (hs : szB 200 b) (hv : ∀ q ∈ v, szR 200 q) (h : okS b v) (p : Pool) : MC.m_check_set [bdD b, stD v] p = .ok .non p := by
  simp [MC.m_check_set, MC.b_check_set, runB_ap, checkB_ok hb hs, MC.m_check_setting, MC.b_check_setting, wrongin_ok hb hs hv h]
theorem mixof_ok (hb : okB b) (hs : szB m b) (hm : m ≤ 200) (hv : ∀ q ∈ v, szR n q) (hn : n ≤ 200) (h : okS b v) (p : Pool) : MC.m_mix_of [bdD b, stD v] p = .ok (mxD (mixP b v)) p := by
  simp [MC.m_mix_of, MC.b_mix_of, runB_ap, checkset_ok hb (fun x hx => ⟨(hs x hx).1.mono hm, (hs x hx).2.mono hm⟩) (fun q hq => (hv q hq).mono hn) h, mixby_ok hs hb.1.2 hv h.1 (by omega)]
def flows (b : Bd) : List Rat := b.map fun x => x.1
theorem full_ok (hb : okB b) (hs : szB 200 b) (p : Pool) : MC.m_full [bdD b] p = .ok (stD (flows b)) p := by
  have l := lcM_mapT (t := pT [pN false 1, pN false 2]) (f := MC.e_full_1) (ε := [some (bdD b), none, none]) (p := p) tapD (fun x => frD x.1) b fun x hx => ⟨_, rfl, by simp [MC.e_full_1]⟩
  have hl := hb.1.2
  simp [bdD] at l
  have c := checkB_ok hb hs p
  simp [MC.m_full, MC.b_full, runB_ap, c]
  simp [bdD, show b.length ≤ 10000 by omega, l, stD, flows]
theorem full_okS (hb : ∀ x ∈ b, 0 < x.1) : okS b (flows b) := by
  refine ⟨by rw [flows, List.length_map], fun z hz => ?_⟩
  rw [flows] at hz
  have e : (b.map fun x => x.1).zip b = b.map fun x => (x.1, x) := zip_mapself (fun x : Rat × Rat => x.1) b
  rw [e] at hz
  obtain ⟨x, hx, rfl⟩ := List.mem_map.mp hz
  have := hb x hx
  exact ⟨by grind, by grind⟩
theorem full_mix (b : Bd) : mixP b (flows b) = (tot b, heat b) := by
  have e : (b.map fun x => x.1).zip b = b.map fun x => (x.1, x) := zip_mapself (fun x : Rat × Rat => x.1) b
  unfold mixP mixH flows tot heat
  rw [e, List.map_map]
  rfl
theorem flows_sz (hs : szB m b) : ∀ q ∈ flows b, szR m q := fun q hq => by
  obtain ⟨x, hx, rfl⟩ := List.mem_map.mp hq
  exact (hs x hx).1
theorem ltotal_ok (hs : szB m b) (hl : b.length ≤ 8) (hm : m ≤ 400) (p : Pool) : MC.m__law_total [bdD b] p = .ok (frD (tot b)) p := by
  have l := lcM_mapT (t := pT [pN false 1, pN false 2]) (f := MC.e__law_total_1) (ε := [some (bdD b), none, none]) (p := p) tapD (fun x => frD x.1) b fun x hx => ⟨_, rfl, by simp [MC.e__law_total_1]⟩
  rw [map_map_frD b (fun x => x.1)] at l
  have s := lsum_ok (m := m) (qs := b.map fun x => x.1) (all_map_sz fun x hx => (hs x hx).1) (by
    rw [List.length_map]
    have := Nat.mul_le_mul (show m + 1 ≤ 401 by omega) hl
    omega) p
  simp [MC.m__law_total, MC.b__law_total, runB_ap, bdD, show b.length ≤ 10000 by omega] at l ⊢
  rw [List.map_map] at s; rw [l]
  simp [s, tot]
theorem szR_tot (hs : szB m b) (hl : b.length ≤ 8) : szR (1 + (m + 1) * 8) (tot b) := by
  refine (szR_sm (m := m) (all_map_sz fun x hx => (hs x hx).1)).mono ?_
  rw [List.length_map]
  have := Nat.mul_le_mul (show m + 1 ≤ m + 1 by omega) hl
  omega
theorem szR_heat (hs : szB m b) (hl : b.length ≤ 8) : szR (1 + (2 * m + 1) * 8) (heat b) := by
  refine (szR_sm (m := m + m) (all_map_sz fun x hx => szR_mul (hs x hx).1 (hs x hx).2)).mono ?_
  rw [List.length_map]
  have := Nat.mul_le_mul (show m + m + 1 ≤ 2 * m + 1 by omega) hl
  omega
end
theorem frD_half : frD (1 / 2) = .tup [.int 1, .int 2] := by
  have h : (1 / 2 : Rat) = ⟨1, 2, by decide, by decide⟩ := by decide +kernel
  rw [h]; rfl
theorem szR_half : szR 2 (1 / 2) := by
  have h : (1 / 2 : Rat) = ⟨1, 2, by decide, by decide⟩ := by decide +kernel
  rw [h]; exact ⟨by decide, by decide⟩
end MC

end
section
namespace MC
open PySem PySem.Spec L2 DL MW
theorem ltimes_raw {a : Rat} {i j : Int} {n : Nat} (ha : szR n a) (hi : i.natAbs < 2 ^ n) (hj : j.natAbs < 2 ^ n) (h0 : j ≠ 0) (hn : n ≤ 4000) (p : Pool) : MW.m__law_times [frD a, .tup [.int i, .int j]] p = .ok (frD (a * Rat.divInt i j)) p := by
  have e : Rat.divInt (a.num * i) (a.den * j) = a * Rat.divInt i j := by
    have h := Rat.divInt_mul_divInt a.num i (d₁ := a.den) (d₂ := j)
    rw [Rat.num_divInt_den] at h
    exact h.symm
  have hb : ((a.den : Int) * j).natAbs < 2 ^ 9000 := Nat.lt_of_lt_of_le (mul_natAbs (den_abs ha) hj) (Nat.pow_le_pow_right (by decide) (by omega))
  simp [MW.m__law_times, MW.b__law_times, runB_ap, mulD_sz hn ha.1 hi, mulD_sz hn (den_abs ha) hj, lawf_ok (Int.mul_ne_zero (den_ne a) h0) hb, e]
theorem wts_frs {m : Nat} : ∀ {qs : List Rat}, (∀ q ∈ qs, szR 1500 q) → wts (qs.map frD) = 1013 * qs.length
  | [], _ => by simp [wts]
  | q :: qs, h => by
    rw [List.map_cons, wts, wt_frD (h q List.mem_cons_self), wts_frs (m := m) fun x hx => h x (List.mem_cons_of_mem _ hx), List.length_cons]
    omega
theorem sh_frs (n : Nat) (qs : List Rat) : (qs.map frD).all (sh (n + 1)) = true := by
  rw [List.all_eq_true]
  intro d hd
  obtain ⟨q, _, rfl⟩ := List.mem_map.mp hd
  simp
theorem eqvs_frs : ∀ (qs rs : List Rat), eqvs (qs.map frD) (rs.map frD) = decide (qs = rs)
  | [], [] => by simp
  | [], _ :: _ => by simp
  | _ :: _, [] => by simp
  | q :: qs, r :: rs => by simp [eqvs_frs qs rs]
theorem cut_dn {α : Type} (xs : List α) (n : Nat) : cut xs (some (n : Int)) none = xs.drop n := by
  unfold cut
  have h1 : HT.sIx xs.length xs.length none = xs.length := rfl
  have h0 : HT.sIx xs.length 0 (some (n : Int)) = min n xs.length := by
    unfold HT.sIx
    simp
    try omega
  rw [h0, h1]
  by_cases h : n ≤ xs.length
  · rw [Nat.min_eq_left h, List.take_of_length_le (by rw [List.length_drop]; omega)]
  · rw [Nat.min_eq_right (by omega), List.drop_length, List.drop_of_length_le (by omega)]
    simp
/-! ### the law's own falling warmths -/
def fallA (w : Rat) (L : List Rat) : Nat := (L.filter fun y => decide (w < y)).length
def fallS (L : List Rat) (w : Rat) : List Rat := if w ∈ L then L else L.take (fallA w L) ++ [w] ++ L.drop (fallA w L)
theorem fallA_split {w : Rat} : ∀ {L : List Rat}, falls L → (∀ y ∈ L.take (fallA w L), w < y) ∧ ∀ y ∈ L.drop (fallA w L), y ≤ w
  | [], _ => ⟨fun _ h => by simp at h, fun _ h => by simp at h⟩
  | k :: L, h => by
    obtain ⟨h1, h2⟩ := List.pairwise_cons.mp h
    obtain ⟨i1, i2⟩ := fallA_split (w := w) h2
    by_cases c : w < k
    · have e : fallA w (k :: L) = fallA w L + 1 := by
        unfold fallA
        rw [List.filter_cons_of_pos (by simp [c]), List.length_cons]
      rw [e, List.take_succ_cons, List.drop_succ_cons]
      refine ⟨fun j hj => ?_, i2⟩
      rcases List.mem_cons.mp hj with rfl | hj
      · exact c
      · exact i1 j hj
    · have e : fallA w (k :: L) = 0 := by
        unfold fallA
        rw [List.length_eq_zero_iff, List.filter_eq_nil_iff]
        intro j hj
        rcases List.mem_cons.mp hj with rfl | hj
        · simp [c]
        · have := h1 j hj
          have : ¬ w < j := by grind
          simp [this]
      rw [e]
      refine ⟨fun j hj => by simp at hj, fun j hj => ?_⟩
      rw [List.drop_zero] at hj
      rcases List.mem_cons.mp hj with rfl | hj
      · grind
      · have := h1 j hj
        grind
theorem fallS_falls {L : List Rat} {w : Rat} (h : falls L) : falls (fallS L w) := by
  unfold fallS
  split
  · exact h
  · rename_i c
    obtain ⟨h1, h2⟩ := fallA_split (w := w) h
    unfold falls
    rw [List.append_assoc, List.pairwise_append, List.pairwise_append]
    have hd : ∀ y ∈ L.drop (fallA w L), y < w := fun y hy => by
      have := h2 y hy
      have : y ≠ w := fun z => c (by rw [← z]; exact List.mem_of_mem_drop hy)
      grind
    refine ⟨List.Pairwise.sublist (List.take_sublist _ _) h, ⟨List.pairwise_singleton _ _, List.Pairwise.sublist (List.drop_sublist _ _) h, fun a ha y hy => ?_⟩, fun a ha y hy => ?_⟩
    · rw [List.mem_singleton] at ha
      subst ha
      exact hd y hy
    · have a1 := h1 a ha
      rcases List.mem_append.mp hy with hy | hy
      · rw [List.mem_singleton] at hy
        subst hy
        exact a1
      · have := hd y hy
        grind
theorem fallS_mem {L : List Rat} {w y : Rat} : y ∈ fallS L w ↔ y ∈ L ∨ y = w := by
  unfold fallS
  split
  · rename_i c
    constructor
    · exact .inl
    · rintro (h | rfl)
      · exact h
      · exact c
  · rw [List.mem_append, List.mem_append, List.mem_singleton]
    have e : y ∈ L ↔ y ∈ L.take (fallA w L) ∨ y ∈ L.drop (fallA w L) := by
      rw [← List.mem_append, List.take_append_drop]
    rw [e]
    constructor
    · rintro ((h | h) | h)
      · exact .inl (.inl h)
      · exact .inr h
      · exact .inl (.inr h)
    · rintro ((h | h) | h)
      · exact .inl (.inl h)
      · exact .inr h
      · exact .inl (.inr h)
theorem fold_fallS (T : Bd) : ∀ L : List Rat, falls L → falls (T.foldl (fun L x => fallS L x.2) L) ∧ ∀ y, y ∈ T.foldl (fun L x => fallS L x.2) L ↔ y ∈ L ∨ ∃ z ∈ T, z.2 = y := by
  induction T with
  | nil => intro L h; exact ⟨h, fun y => by simp⟩
  | cons x T ih =>
    intro L h
    obtain ⟨i1, i2⟩ := ih (fallS L x.2) (fallS_falls h)
    rw [List.foldl_cons]
    refine ⟨i1, fun y => ?_⟩
    rw [i2, fallS_mem]
    simp only [List.mem_cons]
    constructor
    · rintro ((h | h) | ⟨z, hz, e⟩)
      · exact .inl h
      · exact .inr ⟨x, .inl rfl, h.symm⟩
      · exact .inr ⟨z, .inr hz, e⟩
    · rintro (h | ⟨z, rfl | hz, e⟩)
      · exact .inl (.inl h)
      · exact .inl (.inr e.symm)
      · exact .inr ⟨z, hz, e⟩
theorem rows_fold (b : Bd) : b.foldl (fun L x => fallS L x.2) [] = rowsP b := by
  obtain ⟨h1, h2⟩ := fold_fallS b [] List.Pairwise.nil
  refine falls_uniq h1 (rows_fall b) fun w => ?_
  rw [h2, rows_mem]
  simp
theorem rows_of {b c : Bd} (h : ∀ w, (∃ z ∈ b, z.2 = w) ↔ ∃ z ∈ c, z.2 = w) : rowsP b = rowsP c :=
  falls_uniq (rows_fall b) (rows_fall c) fun w => by rw [rows_mem, rows_mem, h]
theorem heat_wsum (b : Bd) : heat b = wsum (fun w => w) b := rfl
theorem tot_wsum (b : Bd) : tot b = wsum (fun _ => 1) b := by
  unfold tot wsum
  congr 1
  apply List.map_congr_left
  intro x _
  grind
end MC

end
section
namespace MC2
open PySem PySem.Spec L2 DL
def e__law_mix_1 : DEnv → M D :=
  (dCall 2 MW.m__law_times (dCons (d2 ixD (dVar 1) (dVar 2)) (dCons (d2 ixD (d2 ixD (dVar 0) (dVar 2)) (dC (.int 1))) dNil)))
def b__law_mix : DEnv → M Fl :=
  (sRet (dA tupO (dCons (dCall 1 MC.m__law_sum (dCons (dA listD (dCons (dVar 1) dNil)) dNil)) (dCons (dCall 1 MC.m__law_sum (dCons (dLc (iO rng1 (dCons (dA lenD (dCons (dVar 0) dNil)) dNil)) [2] (pN false 2) dYes e__law_mix_1) dNil)) dNil))))
def m__law_mix : List D → M D := runB b__law_mix 3
end MC2

end
section
namespace DL
open PySem PySem.Spec L2
/-- items drawn out of the pool, one for each -/
theorem lcM_drawF {A B : Type} {t : Pat} {f : DEnv → M D} {ε : DEnv} (g : A → D) (h : B → D) (I : Pool → Prop) (R : A → B → Prop) : ∀ (xs : List A), (∀ x ∈ xs, ∀ p, I p → ∃ ε1 y p', t (g x) ε = some ε1 ∧ f ε1 p = .ok (h y) p' ∧ R x y ∧ I p') → ∀ p, I p → ∃ (ys : List B) (p' : Pool), lcM t dYes f (xs.map g) ε p = .ok (ys.map h) p' ∧ ys.length = xs.length ∧ (∀ z ∈ ys.zip xs, R z.2 z.1) ∧ I p'
  | [], _, p, hp => ⟨[], p, rfl, rfl, (fun z h => by simp at h), hp⟩
  | x :: xs, H, p, hp => by
    obtain ⟨ε1, y, p', h1, h2, h3, h4⟩ := H x List.mem_cons_self p hp
    obtain ⟨ys, p'', h5, h6, h7, h8⟩ := lcM_drawF g h I R xs (fun d hd => H d (List.mem_cons_of_mem _ hd)) p' h4
    refine ⟨y :: ys, p'', ?_, by simp [h6], fun z hz => ?_, h8⟩
    · have e : dYes ε1 p = .ok true p := rfl
      rw [List.map_cons, lcM_cons, h1, ofO_some, ok_thn, e, ok_thn, if_pos rfl, h2, ok_thn, h5]
      rfl
    · rw [List.zip_cons_cons] at hz
      rcases List.mem_cons.mp hz with rfl | hz
      · exact h3
      · exact h7 z hz
end DL
namespace MC
open PySem PySem.Spec L2 DL MW
theorem zip_rev {A B : Type} : ∀ (xs : List A) (ys : List B), xs.length = ys.length → xs.reverse.zip ys.reverse = (xs.zip ys).reverse
  | [], [], _ => rfl
  | x :: xs, y :: ys, h => by
    have h' : xs.length = ys.length := by simpa using h
    rw [List.reverse_cons, List.reverse_cons, List.zip_append (by rw [List.length_reverse, List.length_reverse, h']), zip_rev xs ys h']
    simp
  | [], _ :: _, h => by simp at h
  | _ :: _, [], h => by simp at h
theorem sm_scale {A : Type} (c : Rat) (f : A → Rat) (xs : List A) : sm (xs.map fun x => f x * c) = sm (xs.map f) * c := by
  induction xs with
  | nil => simp
  | cons x xs ih => simp only [List.map_cons, sm_cons]; rw [ih]; grind
theorem sm_add {A : Type} (f g : A → Rat) (xs : List A) : sm (xs.map fun x => f x + g x) = sm (xs.map f) + sm (xs.map g) := by
  induction xs with
  | nil => exact (Rat.add_zero 0).symm
  | cons x xs ih => simp only [List.map_cons, sm_cons]; rw [ih]; grind
section
variable {b : Bd} {m n : Nat} {u v : List Rat}
theorem mixP_rev (h : v.length = b.length) : mixP b.reverse v.reverse = mixP b v := by
  unfold mixP mixH
  rw [zip_rev v b h, List.map_reverse, sm_reverse, sm_reverse]
theorem okS_rev (h : okS b v) : okS b.reverse v.reverse := by
  refine ⟨by rw [List.length_reverse, List.length_reverse]; exact h.1, fun z hz => ?_⟩
  rw [zip_rev v b h.1] at hz
  exact h.2 z (List.mem_reverse.mp hz)
theorem zip_mapl {A B C : Type} (f : A → C) : ∀ (xs : List A) (ys : List B), (xs.map f).zip ys = (xs.zip ys).map fun z => (f z.1, z.2)
  | [], _ => by simp
  | _ :: _, [] => by simp
  | x :: xs, y :: ys => by simp [zip_mapl f xs ys]
theorem mixP_scale (c : Rat) : mixP b (v.map fun q => q * c) = ((mixP b v).1 * c, (mixP b v).2 * c) := by
  unfold mixP mixH
  rw [zip_mapl, List.map_map]
  have h1 := sm_scale c (fun q : Rat => q) v
  have h2 := sm_scale c (fun z : Rat × (Rat × Rat) => z.1 * z.2.2) (v.zip b)
  have e : ((fun z : Rat × (Rat × Rat) => z.1 * z.2.2) ∘ fun z : Rat × (Rat × Rat) => (z.1 * c, z.2)) = fun z => z.1 * z.2.2 * c := by
    funext z; show z.1 * c * z.2.2 = _; grind
  rw [e, h2, h1, List.map_id']
theorem zip_zip {A : Type} : ∀ (u v : List Rat) (b : List A), u.length = b.length → v.length = b.length → ((u.zip v).map fun z => z.1 + z.2).length = b.length ∧ ((u.zip v).map fun z => z.1 + z.2).zip b = (u.zip (v.zip b)).map fun z => (z.1 + z.2.1, z.2.2)
  | [], [], [], _, _ => by simp
  | x :: u, y :: v, w :: b, h1, h2 => by
    obtain ⟨i1, i2⟩ := zip_zip u v b (by simpa using h1) (by simpa using h2)
    simp only [List.zip_cons_cons, List.map_cons, List.length_cons, i2, i1]
    exact ⟨trivial, trivial⟩
  | [], _ :: _, [], _, h => by simp at h
  | [], [], _ :: _, h, _ => by simp at h
  | [], _ :: _, _ :: _, h, _ => by simp at h
  | _ :: _, _, [], h, _ => by simp at h
  | _ :: _, [], _ :: _, _, h => by simp at h
theorem sm_zip_add : ∀ (u v : List Rat), u.length = v.length → sm ((u.zip v).map fun z => z.1 + z.2) = sm u + sm v
  | [], [], _ => (Rat.add_zero 0).symm
  | x :: u, y :: v, h => by
    simp only [List.zip_cons_cons, List.map_cons, sm_cons]
    rw [sm_zip_add u v (by simpa using h)]
    grind
  | [], _ :: _, h => by simp at h
  | _ :: _, [], h => by simp at h
theorem mixH_add : ∀ (b : Bd) (u v : List Rat), u.length = b.length → v.length = b.length → mixH b ((u.zip v).map fun z => z.1 + z.2) = mixH b u + mixH b v
  | [], [], [], _, _ => (Rat.add_zero 0).symm
  | x :: b, y :: u, z :: v, h1, h2 => by
    have ih := mixH_add b u v (by simpa using h1) (by simpa using h2)
    unfold mixH at ih ⊢
    simp only [List.zip_cons_cons, List.map_cons, sm_cons]
    rw [ih]
    grind
  | [], _ :: _, _, h, _ => by simp at h
  | [], [], _ :: _, _, h => by simp at h
  | _ :: _, [], _, h, _ => by simp at h
  | _ :: _, _ :: _, [], _, h => by simp at h
theorem mixP_add (h1 : u.length = b.length) (h2 : v.length = b.length) : mixP b ((u.zip v).map fun z => z.1 + z.2) = ((mixP b u).1 + (mixP b v).1, (mixP b u).2 + (mixP b v).2) := by
  unfold mixP
  rw [sm_zip_add u v (h1.trans h2.symm), mixH_add b u v h1 h2]
theorem okS_scale {c : Rat} (h : okS b v) (h0 : 0 ≤ c) (h1 : c ≤ 1) : okS b (v.map fun q => q * c) := by
  refine ⟨by rw [List.length_map]; exact h.1, fun z hz => ?_⟩
  rw [zip_mapl] at hz
  obtain ⟨y, hy, rfl⟩ := List.mem_map.mp hz
  obtain ⟨a1, a2⟩ := h.2 y hy
  have e1 := Rat.mul_nonneg a1 h0
  have e2 : y.1 * c ≤ y.1 * 1 := Rat.mul_le_mul_of_nonneg_left h1 a1
  exact ⟨e1, by show y.1 * c ≤ y.2.1; grind⟩
/-- the mean of two settings -/
def meanS (u v : List Rat) : List Rat := (u.zip v).map fun z => (z.1 + z.2) * (1 / 2)
theorem meanS_eq (u v : List Rat) : meanS u v = ((u.zip v).map fun z => z.1 + z.2).map fun q => q * (1 / 2) := by
  unfold meanS
  rw [List.map_map]
  rfl
theorem mixP_mean (h1 : u.length = b.length) (h2 : v.length = b.length) : mixP b (meanS u v) = ((mixP b u).1 * (1 / 2) + (mixP b v).1 * (1 / 2), (mixP b u).2 * (1 / 2) + (mixP b v).2 * (1 / 2)) := by
  rw [meanS_eq, mixP_scale, mixP_add h1 h2]
  simp only
  refine Prod.ext ?_ ?_ <;> simp only <;> grind
theorem okS_mean : ∀ {b : Bd} {u v : List Rat}, okS b u → okS b v → okS b (meanS u v)
  | b, u, v, hu, hv => by
    obtain ⟨l1, l2⟩ := zip_zip u v b hu.1 hv.1
    refine ⟨by rw [meanS_eq, List.length_map]; exact l1, fun z hz => ?_⟩
    rw [meanS_eq, zip_mapl, l2, List.map_map] at hz
    obtain ⟨y, hy, rfl⟩ := List.mem_map.mp hz
    obtain ⟨i, hi⟩ := List.mem_iff_getElem?.mp hy
    obtain ⟨a1, a2⟩ := List.getElem?_zip_eq_some.mp hi
    obtain ⟨a3, a4⟩ := List.getElem?_zip_eq_some.mp a2
    have q1 := hu.2 (y.1, y.2.2) (List.mem_iff_getElem?.mpr ⟨i, List.getElem?_zip_eq_some.mpr ⟨a1, a4⟩⟩)
    have q2 := hv.2 (y.2.1, y.2.2) (List.mem_iff_getElem?.mpr ⟨i, List.getElem?_zip_eq_some.mpr ⟨a3, a4⟩⟩)
    simp only at q1 q2
    simp only [Function.comp]
    constructor <;> grind
def shutS (b : Bd) : List Rat := b.map fun _ => 0
theorem shut_mix (b : Bd) : mixP b (shutS b) = (0, 0) := by
  unfold mixP mixH shutS
  rw [zip_mapself, List.map_map]
  have h1 : sm (b.map fun _ => (0 : Rat)) = 0 := by
    induction b with
    | nil => rfl
    | cons x b ih => simp only [List.map_cons, sm_cons, ih]; grind
  have h2 : sm (b.map ((fun z : Rat × (Rat × Rat) => z.1 * z.2.2) ∘ fun x => ((0 : Rat), x))) = 0 := by
    induction b with
    | nil => rfl
    | cons x b ih =>
      simp only [List.map_cons, sm_cons]
      rw [ih]
      · show (0 : Rat) * x.2 + 0 = 0; grind
      · induction b with
        | nil => rfl
        | cons y c ih2 => simp only [List.map_cons, sm_cons, ih2] at *; grind
  rw [h1, h2]
theorem okS_shut (hb : ∀ x ∈ b, 0 < x.1) : okS b (shutS b) := by
  refine ⟨by rw [shutS, List.length_map], fun z hz => ?_⟩
  rw [shutS, zip_mapself] at hz
  obtain ⟨x, hx, rfl⟩ := List.mem_map.mp hz
  have := hb x hx
  exact ⟨by grind, by grind⟩
/-- the mean warmth lies between the ends -/
theorem mix_between {lo hi : Rat} : ∀ {b : Bd} {v : List Rat}, okS b v → (∀ x ∈ b, lo ≤ x.2 ∧ x.2 ≤ hi) → lo * sm v ≤ mixH b v ∧ mixH b v ≤ hi * sm v ∧ 0 ≤ sm v
  | [], [], _, _ => by simp [mixH]
  | x :: b, q :: v, h, hx => by
    have h' : okS b v := ⟨by simpa using h.1, fun z hz => h.2 z (by rw [List.zip_cons_cons]; exact List.mem_cons_of_mem _ hz)⟩
    obtain ⟨i1, i2, i3⟩ := mix_between h' fun y hy => hx y (List.mem_cons_of_mem _ hy)
    obtain ⟨a1, a2⟩ := hx x List.mem_cons_self
    have q0 := (h.2 (q, x) (by rw [List.zip_cons_cons]; exact List.mem_cons_self)).1
    simp only at q0
    have e1 := mul_le_l q0 a1
    have e2 := mul_le_l q0 a2
    unfold mixH at i1 i2 ⊢
    simp only [List.zip_cons_cons, List.map_cons, sm_cons]
    refine ⟨by grind, by grind, by grind⟩
  | [], _ :: _, h, _ => by have := h.1; simp at this
  | _ :: _, [], h, _ => by have := h.1; simp at this
theorem gqv (v : List Rat) {k : Nat} (h : k < v.length) : ixD (stD v) (.int (k : Nat)) = some (frD (gq v k)) := by
  obtain ⟨x, e1, e2⟩ := atI_nat (l := v.map frD) (i := (k : Nat)) (by omega) (by rw [List.length_map]; omega)
  rw [Int.toNat_natCast, List.getElem?_map, gq_get h] at e2
  cases e2
  exact e1
theorem gtb (b : Bd) {k : Nat} (h : k < b.length) : ixD (bdD b) (.int (k : Nat)) = some (tapD (b.getD k (0, 0))) := by
  obtain ⟨x, e1, e2⟩ := atI_nat (l := b.map tapD) (i := (k : Nat)) (by omega) (by rw [List.length_map]; omega)
  rw [Int.toNat_natCast, List.getElem?_map, getD_mem h] at e2
  cases e2
  exact e1
theorem zip_range {A : Type} (f : Rat → (Rat × Rat) → A) : ∀ (v : List Rat) (b : Bd), v.length = b.length → (List.range b.length).map (fun k => f (gq v k) (b.getD k (0, 0))) = (v.zip b).map fun z => f z.1 z.2 := by
  intro v b h
  apply List.ext_getElem?
  intro i
  rw [List.getElem?_map, List.getElem?_map]
  by_cases hi : i < b.length
  · rw [List.getElem?_range hi]
    have : (v.zip b)[i]? = some (gq v i, b.getD i (0, 0)) := List.getElem?_zip_eq_some.mpr ⟨gq_get (by omega), getD_mem hi⟩
    rw [this]
    rfl
  · rw [List.getElem?_eq_none (by rw [List.length_range]; omega), List.getElem?_eq_none (by rw [List.length_zip]; omega)]
    rfl
theorem rngL_nD (n : Nat) : rngL 0 n = (List.range n).map nD := by
  unfold rngL nD
  apply List.map_congr_left
  intro i _
  rw [Int.zero_add]
theorem lmix_ok (hs : szB m b) (hl : b.length ≤ 8) (hv : ∀ q ∈ v, szR n q) (hvl : v.length = b.length) (hmn : m + n ≤ 498) (p : Pool) : MC2.m__law_mix [bdD b, stD v] p = .ok (mxD (mixP b v)) p := by
  have hz : (v.zip b).length ≤ 8 := by rw [List.length_zip]; omega
  have hgv : ∀ {k : Nat}, k < b.length → szR n (gq v k) := fun {k} hk => hv _ (List.mem_of_getElem? (gq_get (by omega)))
  have hgb : ∀ {k : Nat}, k < b.length → szR m (b.getD k (0, 0)).2 := fun {k} hk => (hs _ (List.mem_of_getElem? (getD_mem hk))).2
  have l := lcM_mapT (t := pN false 2) (f := MC2.e__law_mix_1) (ε := [some (bdD b), some (stD v), none]) (p := p) nD (fun k => frD (gq v k * (b.getD k (0, 0)).2)) (List.range b.length) fun k hk => by
    have hk := List.mem_range.mp hk
    have i1 := gqv v (k := k) (by omega)
    have i2 := gtb b hk
    have t1 := hgv hk
    have t2 := hgb hk
    generalize gq v k = q at i1 t1 ⊢
    generalize b.getD k (0, 0) = x at i2 t2 ⊢
    refine ⟨_, rfl, ?_⟩
    simp [MC2.e__law_mix_1, nD, i1, i2, tapD, ltimes_ok (t1.mono (show n ≤ n + m by omega)) (t2.mono (show m ≤ n + m by omega)) (by omega)]
  rw [zip_range (fun q x => frD (q * x.2)) v b hvl, map_map_frD (v.zip b) (fun z => z.1 * z.2.2)] at l
  have s1 := lsum_okD (m := n + m) (d := .lst (((v.zip b).map fun z => z.1 * z.2.2).map frD)) rfl (all_map_sz fun z hz => szR_mul (zip_sz hs hv hz).1 (zip_sz hs hv hz).2.2) (by
    rw [List.length_map]
    have := len_le_mul hz (show (n + m + 1) * 8 ≤ 3999 by omega)
    omega) p
  have s2 := lsum_okD (m := n) (d := .lst (v.map frD)) rfl hv (by
    have := len_le_mul (a := n + 1) (show v.length ≤ 8 by omega) (show (n + 1) * 8 ≤ 3999 by omega)
    omega) p
  have rr : rng1 [.int (b.length : Int)] = some ((List.range b.length).map nD) := by
    rw [rng1_i _ ⟨by omega, by omega⟩, Int.toNat_natCast, rngL_nD]
  have e2 : lenD [bdD b] = some (.int b.length) := by
    have := lenD_t (b.map tapD)
    rw [List.length_map] at this
    exact this
  have ls : listD [stD v] = some (.lst (v.map frD)) := rfl
  have it : iO rng1 (dCons (dA lenD (dCons (dVar 0) dNil)) dNil) [some (bdD b), some (stD v), none] p = .ok ((List.range b.length).map nD) p := by
    have : (dCons (dA lenD (dCons (dVar 0) dNil)) dNil) [some (bdD b), some (stD v), none] p = .ok [.int b.length] p := by simp [e2]
    rw [iO_ap, this, ok_thn, rr, ofO_some]
  clear rr
  have sL : dLc (iO rng1 (dCons (dA lenD (dCons (dVar 0) dNil)) dNil)) [2] (pN false 2) dYes MC2.e__law_mix_1 [some (bdD b), some (stD v), none] p = .ok (.lst (((v.zip b).map fun z => z.1 * z.2.2).map frD)) p := by
    have b' : wipeE [some (bdD b), some (stD v), none] [2] = [some (bdD b), some (stD v), none] := rfl
    rw [dLc_ap, it, ok_thn, if_pos (by rw [List.length_map, List.length_range]; omega), b', noEx_ap, l]
    rfl
  clear l it
  have hH : sm ((v.zip b).map fun z => z.1 * z.2.2) = mixH b v := rfl
  rw [hH] at s1
  generalize ((v.zip b).map fun z => z.1 * z.2.2).map frD = L at sL s1
  have a1 : dCall 1 MC.m__law_sum (dCons (dA listD (dCons (dVar 1) dNil)) dNil) [some (bdD b), some (stD v), none] p = .ok (frD (sm v)) p := by
    have : (dCons (dA listD (dCons (dVar 1) dNil)) dNil) [some (bdD b), some (stD v), none] p = .ok [.lst (v.map frD)] p := rfl
    rw [dCall_ap, this, ok_thn]; exact (if_pos (show [D.lst (v.map frD)].length = 1 from rfl)).trans s2
  have a2 : dCall 1 MC.m__law_sum (dCons (dLc (iO rng1 (dCons (dA lenD (dCons (dVar 0) dNil)) dNil)) [2] (pN false 2) dYes MC2.e__law_mix_1) dNil) [some (bdD b), some (stD v), none] p = .ok (frD (mixH b v)) p := by
    rw [dCall_ap, dCons_ap, sL, ok_thn, dNil_ap, ok_thn, ok_thn]; exact (if_pos (show [D.lst L].length = 1 from rfl)).trans s1
  show (MC2.b__law_mix [some (bdD b), some (stD v), none] p).run = _
  unfold MC2.b__law_mix
  rw [sRet_ap, dA_ap, dCons_ap, a1, ok_thn, dCons_ap, a2, ok_thn, dNil_ap, ok_thn, ok_thn, ok_thn, tupO_of (by simp), ofO_some, ok_sx, run_rt]
  rfl
theorem szR_mix (hs : szB m b) (hl : b.length ≤ 8) (hv : ∀ q ∈ v, szR n q) (hvl : v.length = b.length) : szR (1 + (n + 1) * 8) (mixP b v).1 ∧ szR (1 + (n + m + 1) * 8) (mixP b v).2 := by
  constructor
  · refine (szR_sm (m := n) hv).mono ?_
    have := len_le_mul (a := n + 1) (show v.length ≤ 8 by omega) (Nat.le_refl _)
    omega
  · refine (szR_sm (m := n + m) (all_map_sz fun z hz => szR_mul (zip_sz hs hv hz).1 (zip_sz hs hv hz).2.2)).mono ?_
    rw [List.length_map]
    have := len_le_mul (a := n + m + 1) (show (v.zip b).length ≤ 8 by rw [List.length_zip]; omega) (Nat.le_refl _)
    omega
/-! ### shut, warmth_of -/
theorem fromnq_ok (q : Rat) (p : Pool) : MW.m_is_from_nought [frD q] p = .ok (.bl (decide (0 ≤ q))) p := by
  simp [MW.m_is_from_nought, MW.b_is_from_nought, runB_ap, isfrac_ok (kn2_frD q), isF_frD]
theorem mix_is (x : Rat × Rat) (p : Pool) : MC.m_is_mix_of [mxD x] p = .ok (.bl (decide (0 ≤ x.1))) p := by
  have h := pair_ok (d := mxD x) rfl p
  have i0 : ixD (mxD x) (.int 0) = some (frD x.1) := ixT0 _ _
  have i1 : ixD (mxD x) (.int 1) = some (frD x.2) := ixT1 _ _ _
  have e : MW.m_is_pair [mxD x] p = .ok (.bl true) p := h
  simp [MC.m_is_mix_of, MC.b_is_mix_of, runB_ap, e, i0, i1, fromnq_ok, isfrac_ok (kn2_frD x.2), isF_frD]
  by_cases c : 0 ≤ x.1 <;> simp [c]
theorem checkmix_ok {x : Rat × Rat} (h : 0 ≤ x.1) (p : Pool) : MC.m_check_mix [mxD x] p = .ok .non p := by
  simp [MC.m_check_mix, MC.b_check_mix, runB_ap, mix_is, h]
theorem overc_ok {x y : Rat} {n : Nat} (ha : szR n x) (hb : szR n y) (hn : n ≤ 4000) (h0 : y ≠ 0) (p : Pool) : MC.m_over [frD x, frD y] p = .ok (frD (x / y)) p := by
  simp [MC.m_over, MC.b_over, runB_ap, mulD_sz hn ha.1 (den_abs hb), mulD_sz hn (den_abs ha) hb.1, plainof_ok (Int.mul_ne_zero (den_ne x) (num_ne h0)) (bot_ok2 ha hb hn), div_eq]
theorem warmthof_mix {x : Rat × Rat} {n : Nat} (h : 0 < x.1) (h1 : szR n x.1) (h2 : szR n x.2) (hn : n ≤ 4000) (p : Pool) : MC.m_warmth_of [mxD x] p = .ok (frD (x.2 / x.1)) p := by
  have i0 : ixD (mxD x) (.int 0) = some (frD x.1) := ixT0 _ _
  have i1 : ixD (mxD x) (.int 1) = some (frD x.2) := ixT1 _ _ _
  have hne : x.1 ≠ 0 := by grind
  have z : eqv (frD x.1) (.tup [.int 0, .int 1]) = false := by rw [← frD_zero, eqv_frD]; simpa using hne
  simp [MC.m_warmth_of, MC.b_warmth_of, runB_ap, checkmix_ok (show 0 ≤ x.1 by grind), i0, i1, z, overc_ok h2 h1 hn hne]
theorem shutby_ok (hl : b.length ≤ 8) (p : Pool) : MW.m_shut_by [bdD b] p = .ok (stD (shutS b)) p := by
  have l := lcM_mapT (t := pN false 1) (f := MW.e_shut_by_1) (ε := [some (bdD b), none]) (p := p) tapD (fun _ => frD 0) b fun x hx => ⟨_, rfl, by simp [MW.e_shut_by_1, frD_zero]⟩
  have sq : seqO (bdD b) = some (b.map tapD) := rfl
  simp [MW.m_shut_by, MW.b_shut_by, runB_ap, sq, show b.length ≤ 10000 by omega, l, stD, shutS]
theorem shut_ok (hb : okB b) (hs : szB 200 b) (p : Pool) : MC.m_shut [bdD b] p = .ok (stD (shutS b)) p := by
  simp [MC.m_shut, MC.b_shut, runB_ap, checkB_ok hb hs, shutby_ok hb.1.2]
end
end MC

end
section
namespace MC
open PySem PySem.Spec L2 DL MW
/-! ### fractions of a common bottom -/
def lat (N M : Nat) (q : Rat) : Prop := ∃ k : Int, q = Rat.divInt k N ∧ k.natAbs ≤ M
section
variable {N N' M M' : Nat} {q r : Rat}
theorem lat.szR (h : lat N M q) (hN : N ≠ 0) {n : Nat} (h1 : N < 2 ^ n) (h2 : M < 2 ^ n) : szR n q := by
  obtain ⟨k, rfl, hk⟩ := h
  exact szR_divInt (by omega) (by omega) (by rw [Int.natAbs_natCast]; exact h1)
theorem lat.mono (h : lat N M q) (hm : M ≤ M') : lat N M' q := by
  obtain ⟨k, e, hk⟩ := h
  exact ⟨k, e, by omega⟩
theorem lat.add (hN : N ≠ 0) (h1 : lat N M q) (h2 : lat N M' r) : lat N (M + M') (q + r) := by
  obtain ⟨k, rfl, hk⟩ := h1
  obtain ⟨l, rfl, hl⟩ := h2
  refine ⟨k + l, ?_, by omega⟩
  have hz : ((N : Nat) : Int) ≠ 0 := by omega
  rw [Rat.divInt_add_divInt _ _ hz hz, ← Int.add_mul, Rat.divInt_mul_right hz]
theorem lat.sub (hN : N ≠ 0) (h1 : lat N M q) (h2 : lat N M' r) : lat N (M + M') (q - r) := by
  obtain ⟨k, rfl, hk⟩ := h1
  obtain ⟨l, rfl, hl⟩ := h2
  refine ⟨k - l, ?_, by omega⟩
  have hz : ((N : Nat) : Int) ≠ 0 := by omega
  rw [Rat.divInt_sub_divInt _ _ hz hz, ← Int.sub_mul, Rat.divInt_mul_right hz]
theorem lat.mul (h1 : lat N M q) (h2 : lat N' M' r) : lat (N * N') (M * M') (q * r) := by
  obtain ⟨k, rfl, hk⟩ := h1
  obtain ⟨l, rfl, hl⟩ := h2
  refine ⟨k * l, ?_, by rw [Int.natAbs_mul]; exact Nat.mul_le_mul hk hl⟩
  rw [Rat.divInt_mul_divInt]
  congr 1
theorem lat.zero : lat N 0 0 := ⟨0, by rw [Rat.zero_divInt], by simp⟩
theorem lat.up (h : lat N M q) (hc : N' ≠ 0) : lat (N * N') (M * N') q := by
  obtain ⟨k, rfl, hk⟩ := h
  refine ⟨k * N', ?_, by rw [Int.natAbs_mul, Int.natAbs_natCast]; exact Nat.mul_le_mul_right _ hk⟩
  have hz : ((N' : Nat) : Int) ≠ 0 := by omega
  have e : ((N * N' : Nat) : Int) = (N : Int) * N' := by simp
  rw [e, Rat.divInt_mul_right hz]
theorem lat.ab (h : lat N M q) : lat N M (ab q) := by
  unfold MC.ab
  split
  · exact lat.zero.mono (Nat.zero_le _)
  · exact h
theorem lat.sm : ∀ {l : List Rat}, N ≠ 0 → (∀ q ∈ l, lat N M q) → lat N (M * l.length) (sm l)
  | [], _, _ => by rw [sm_nil]; exact lat.zero.mono (Nat.zero_le _)
  | x :: l, hN, h => by
    rw [sm_cons]
    refine ((h x List.mem_cons_self).add hN (lat.sm hN fun q hq => h q (List.mem_cons_of_mem _ hq))).mono ?_
    rw [List.length_cons, Nat.mul_add]
    omega
end
/-! ### the stretch from B up to E -/
def cl (B E t : Rat) : Rat := if t < B then B else if E < t then E else t
/-- what a tap of flow f that begins at e gives -/
def xst (B E e f : Rat) : Rat := ab ((if e + f < E then e + f else E) - (if e < B then B else e))
theorem xst_cl {B E e f : Rat} (h : B ≤ E) (hf : 0 ≤ f) : xst B E e f = cl B E (e + f) - cl B E e := by
  unfold xst cl ab
  (repeat' split) <;> grind
theorem xst_nn (B E e f : Rat) : 0 ≤ xst B E e f := ab_nn _
theorem xst_le {B E e f : Rat} (hf : 0 ≤ f) : xst B E e f ≤ f := by
  unfold xst ab
  (repeat' split) <;> grind
def ends (g : Nat → Rat) : Rat → List Nat → List (Nat × Rat)
  | _, [] => []
  | e, i :: r => (i, e) :: ends g (e + g i) r
theorem ends_fst (g : Nat → Rat) : ∀ (e : Rat) (P : List Nat), (ends g e P).map (fun z => z.1) = P
  | _, [] => rfl
  | e, i :: r => by rw [ends, List.map_cons, ends_fst g]
theorem ends_foldl (g : Nat → Rat) : ∀ (P : List Nat) (L : List (Nat × Rat)) (e : Rat), P.foldl (fun (s : List (Nat × Rat) × Rat) i => (s.1 ++ [(i, s.2)], s.2 + g i)) (L, e) = (L ++ ends g e P, e + sm (P.map g))
  | [], L, e => by simp [ends, Rat.add_zero]
  | i :: r, L, e => by
    rw [List.foldl_cons, ends_foldl g r, ends, List.map_cons, sm_cons]
    refine Prod.ext ?_ ?_
    · simp
    · simp only; grind
def fl (b : Bd) (i : Nat) : Rat := (b.getD i (0, 0)).1
def wm (b : Bd) (i : Nat) : Rat := (b.getD i (0, 0)).2
def endsP (b : Bd) : List (Nat × Rat) := ends (fl b) 0 (riseP (wq b))
def strS (b : Bd) (B E : Rat) (Y : List Rat) (z : Nat × Rat) : List Rat := Y.set z.1 (xst B E z.2 (fl b z.1))
def stretchP (b : Bd) (B E : Rat) : List Rat := (endsP b).foldl (strS b B E) (shutS b)
theorem riseW_lt {b : Bd} {i : Nat} (h : i ∈ riseP (wq b)) : i < b.length := by
  have := riseP_lt h
  rw [wq, List.length_map] at this
  exact this
/-- each place gets its own, once -/
theorem setF {f : Nat × Rat → Rat} : ∀ (Z : List (Nat × Rat)) (Y : List Rat), (Z.map fun z => z.1).Nodup → (∀ z ∈ Z, z.1 < Y.length) →
    (Z.foldl (fun Y z => Y.set z.1 (f z)) Y).length = Y.length ∧ (∀ z ∈ Z, (Z.foldl (fun Y z => Y.set z.1 (f z)) Y)[z.1]? = some (f z)) ∧ ∀ i, i ∉ Z.map (fun z => z.1) → (Z.foldl (fun Y z => Y.set z.1 (f z)) Y)[i]? = Y[i]?
  | [], Y, _, _ => ⟨rfl, (fun z hz => by cases hz), fun _ _ => rfl⟩
  | z :: Z, Y, hn, hl => by
    rw [List.map_cons, List.nodup_cons] at hn
    obtain ⟨i1, i2, i3⟩ := setF (f := f) Z (Y.set z.1 (f z)) hn.2 fun y hy => by rw [List.length_set]; exact hl y (List.mem_cons_of_mem _ hy)
    rw [List.foldl_cons]
    refine ⟨by rw [i1, List.length_set], fun y hy => ?_, fun i hi => ?_⟩
    · rcases List.mem_cons.mp hy with rfl | hy
      · rw [i3 _ hn.1, List.getElem?_set_self (hl y List.mem_cons_self)]
      · exact i2 y hy
    · rw [List.map_cons, List.mem_cons, not_or] at hi
      rw [i3 i hi.2, List.getElem?_set_ne fun h => hi.1 h.symm]
section
variable (b : Bd) (B E : Rat)
theorem endsP_ok : ((endsP b).map fun z => z.1).Nodup ∧ (∀ z ∈ endsP b, z.1 < b.length) ∧ ((endsP b).map fun z => z.1).Perm (List.range b.length) := by
  have h : (endsP b).map (fun z => z.1) = riseP (wq b) := ends_fst _ _ _
  have hp := riseP_perm (wq b)
  rw [show (wq b).length = b.length by rw [wq, List.length_map]] at hp
  rw [h]
  refine ⟨hp.nodup_iff.mpr List.nodup_range, fun z hz => ?_, hp⟩
  have : z.1 ∈ (endsP b).map fun z => z.1 := List.mem_map.mpr ⟨z, hz, rfl⟩
  rw [h] at this
  exact riseW_lt this
theorem stretch_get : (stretchP b B E).length = b.length ∧ ∀ z ∈ endsP b, (stretchP b B E)[z.1]? = some (xst B E z.2 (fl b z.1)) := by
  obtain ⟨h1, h2, _⟩ := endsP_ok b
  have hl : (shutS b).length = b.length := by rw [shutS, List.length_map]
  obtain ⟨i1, i2, _⟩ := setF (f := fun z => xst B E z.2 (fl b z.1)) (endsP b) (shutS b) h1 fun z hz => by rw [hl]; exact h2 z hz
  exact ⟨i1.trans hl, i2⟩
/-- sums over a setting, told tap by tap in rising order -/
theorem stretch_sum (ψ : Rat → Rat × Rat → Rat) : sm (((stretchP b B E).zip b).map fun z => ψ z.1 z.2) = sm ((endsP b).map fun z => ψ (xst B E z.2 (fl b z.1)) (b.getD z.1 (0, 0))) := by
  obtain ⟨hl, hg⟩ := stretch_get b B E
  rw [← zip_range (fun q x => ψ q x) (stretchP b B E) b hl]
  have hp := (endsP_ok b).2.2
  have h := sm_perm (hp.map fun k => ψ (gq (stretchP b B E) k) (b.getD k (0, 0)))
  rw [← h, List.map_map]
  congr 1
  apply List.map_congr_left
  intro z hz
  have e := hg z hz
  have e2 := gq_get (qs := stretchP b B E) (i := z.1) (by rw [hl]; exact (endsP_ok b).2.1 z hz)
  rw [e] at e2
  show ψ (gq (stretchP b B E) z.1) _ = _
  rw [← Option.some.inj e2]
end
theorem ends_tele {B E : Rat} (h : B ≤ E) (g : Nat → Rat) : ∀ (P : List Nat) (e : Rat), (∀ i ∈ P, 0 ≤ g i) → sm ((ends g e P).map fun z => xst B E z.2 (g z.1)) = cl B E (e + sm (P.map g)) - cl B E e
  | [], e, _ => by simp [ends, Rat.add_zero]; grind
  | i :: r, e, hg => by
    rw [ends, List.map_cons, sm_cons, ends_tele h g r _ fun j hj => hg j (List.mem_cons_of_mem _ hj), List.map_cons, sm_cons, xst_cl h (hg i List.mem_cons_self)]
    have e1 : e + g i + sm (r.map g) = e + (g i + sm (r.map g)) := by grind
    rw [e1]
    grind
section
variable {b : Bd} {B E : Rat}
theorem fl_pos (hb : ∀ x ∈ b, 0 < x.1) {i : Nat} (hi : i < b.length) : 0 < fl b i := hb _ (List.mem_of_getElem? (getD_mem hi))
theorem tot_rise (b : Bd) : sm ((riseP (wq b)).map (fl b)) = tot b := by
  have hp := riseP_perm (wq b)
  rw [show (wq b).length = b.length by rw [wq, List.length_map]] at hp
  rw [sm_perm (hp.map (fl b))]
  unfold tot
  congr 1
  apply List.ext_getElem?
  intro i
  rw [List.getElem?_map, List.getElem?_map]
  by_cases hi : i < b.length
  · rw [List.getElem?_range hi, getD_mem hi]; rfl
  · rw [List.getElem?_eq_none (by rw [List.length_range]; omega), List.getElem?_eq_none (by omega)]; rfl
theorem stretch_vol (hb : ∀ x ∈ b, 0 < x.1) (h0 : 0 ≤ B) (h1 : B ≤ E) (h2 : E ≤ tot b) : sm (stretchP b B E) = E - B := by
  have h := stretch_sum b B E (fun q _ => q)
  have e : ((stretchP b B E).zip b).map (fun z => z.1) = stretchP b B E := by
    rw [List.map_fst_zip]
    rw [(stretch_get b B E).1]
    omega
  rw [e] at h
  rw [h]
  have t := ends_tele h1 (fl b) (riseP (wq b)) 0 fun i hi => by have := fl_pos hb (riseW_lt hi); grind
  rw [tot_rise] at t
  unfold endsP
  rw [t]
  unfold cl
  (repeat' split) <;> grind
theorem stretch_okS (hb : ∀ x ∈ b, 0 < x.1) : okS b (stretchP b B E) := by
  obtain ⟨hl, hg⟩ := stretch_get b B E
  refine ⟨hl, fun z hz => ?_⟩
  obtain ⟨i, hi⟩ := List.mem_iff_getElem?.mp hz
  obtain ⟨a1, a2⟩ := List.getElem?_zip_eq_some.mp hi
  have hib : i < b.length := (List.getElem?_eq_some_iff.mp a2).1
  have hm : i ∈ (endsP b).map fun z => z.1 := (endsP_ok b).2.2.mem_iff.mpr (List.mem_range.mpr hib)
  obtain ⟨y, hy, rfl⟩ := List.mem_map.mp hm
  have e := hg y hy
  rw [a1] at e
  have e := Option.some.inj e
  have hf := fl_pos hb hib
  have e2 : z.2.1 = fl b y.1 := by
    have := getD_mem hib
    rw [a2] at this
    rw [Option.some.inj this]
    rfl
  rw [e, e2]
  exact ⟨xst_nn _ _ _ _, xst_le (by grind)⟩
end
/-! ### hot and cold -/
/-- H is the greatest heat of volume V, told by the excess -/
def IsHot (b : Bd) (V H : Rat) : Prop := (∀ w, H ≤ w * V + exc b w) ∧ ∃ w, H = w * V + exc b w
def IsCold (b : Bd) (V C : Rat) : Prop := (∀ w, w * V - lck b w ≤ C) ∧ ∃ w, C = w * V - lck b w
theorem IsHot.uniq {b c : Bd} {V H K : Rat} (he : ∀ w, exc b w = exc c w) (h : IsHot b V H) (k : IsHot c V K) : H = K := by
  obtain ⟨h1, w, hw⟩ := h
  obtain ⟨k1, v, hv⟩ := k
  have a := h1 v
  have d := k1 w
  rw [he] at a
  rw [← he] at d
  grind
theorem IsCold.uniq {b c : Bd} {V H K : Rat} (he : ∀ w, lck b w = lck c w) (h : IsCold b V H) (k : IsCold c V K) : H = K := by
  obtain ⟨h1, w, hw⟩ := h
  obtain ⟨k1, v, hv⟩ := k
  have a := h1 v
  have d := k1 w
  rw [he] at a
  rw [← he] at d
  grind
/-- any setting lies within -/
theorem set_hot (w : Rat) : ∀ {b : Bd} {v : List Rat}, okS b v → mixH b v ≤ w * sm v + exc b w
  | [], [], _ => by simp [mixH, exc, Rat.add_zero]
  | x :: b, q :: v, h => by
    have h' : okS b v := ⟨by simpa using h.1, fun z hz => h.2 z (by rw [List.zip_cons_cons]; exact List.mem_cons_of_mem _ hz)⟩
    have ih := set_hot w h'
    obtain ⟨q0, q1⟩ := h.2 (q, x) (by rw [List.zip_cons_cons]; exact List.mem_cons_self)
    simp only at q0 q1
    unfold mixH exc at ih ⊢
    simp only [List.zip_cons_cons, List.map_cons, sm_cons]
    have n := ab_nn (x.2 - w)
    have m : x.2 - w ≤ ab (x.2 - w) := by unfold ab; split <;> grind
    have e1 := mul_le_l q0 m
    have e2 : q * ab (x.2 - w) ≤ x.1 * ab (x.2 - w) := Rat.mul_le_mul_of_nonneg_right q1 n
    grind
  | [], _ :: _, h => by have := h.1; simp at this
  | _ :: _, [], h => by have := h.1; simp at this
theorem set_cold (w : Rat) : ∀ {b : Bd} {v : List Rat}, okS b v → w * sm v - lck b w ≤ mixH b v
  | [], [], _ => by simp [mixH, lck]; grind
  | x :: b, q :: v, h => by
    have h' : okS b v := ⟨by simpa using h.1, fun z hz => h.2 z (by rw [List.zip_cons_cons]; exact List.mem_cons_of_mem _ hz)⟩
    have ih := set_cold w h'
    obtain ⟨q0, q1⟩ := h.2 (q, x) (by rw [List.zip_cons_cons]; exact List.mem_cons_self)
    simp only at q0 q1
    unfold mixH lck at ih ⊢
    simp only [List.zip_cons_cons, List.map_cons, sm_cons]
    have n := ab_nn (w - x.2)
    have m : w - x.2 ≤ ab (w - x.2) := by unfold ab; split <;> grind
    have e1 := mul_le_l q0 m
    have e2 : q * ab (w - x.2) ≤ x.1 * ab (w - x.2) := Rat.mul_le_mul_of_nonneg_right q1 n
    grind
  | [], _ :: _, h => by have := h.1; simp at this
  | _ :: _, [], h => by have := h.1; simp at this
/-- the pivot, hot: E behind all -/
theorem piv_hot (g w : Nat → Rat) {B E : Rat} : ∀ (P : List Nat) (e : Rat), P ≠ [] → (∀ i ∈ P, 0 ≤ g i) → srt w P → e + sm (P.map g) ≤ E → B ≤ E → ∃ u, (∃ i ∈ P, u = w i) ∧ ∀ z ∈ ends g e P, xst B E z.2 (g z.1) * (w z.1 - u) = g z.1 * ab (w z.1 - u)
  | [], _, h, _, _, _, _ => (h rfl).elim
  | i :: r, e, _, hg, hs, hE, hBE => by
    obtain ⟨s1, s2⟩ := List.pairwise_cons.mp hs
    have gi := hg i List.mem_cons_self
    rw [List.map_cons, sm_cons] at hE
    have smn : ∀ l : List Nat, (∀ j ∈ l, 0 ≤ g j) → 0 ≤ sm (l.map g) := by
      intro l
      induction l with
      | nil => intro _; simp
      | cons x l ih => intro h; rw [List.map_cons, sm_cons]; have a := h x List.mem_cons_self; have b := ih fun j hj => h j (List.mem_cons_of_mem _ hj); grind
    have hr := smn r fun j hj => hg j (List.mem_cons_of_mem _ hj)
    have full : ∀ (l : List Nat) (e : Rat), B ≤ e → e + sm (l.map g) ≤ E → (∀ j ∈ l, 0 ≤ g j) → ∀ z ∈ ends g e l, xst B E z.2 (g z.1) = g z.1 := by
      intro l
      induction l with
      | nil => intro _ _ _ _ z hz; cases hz
      | cons j l ih =>
        intro e h1 h2 h3 z hz
        rw [List.map_cons, sm_cons] at h2
        have gj := h3 j List.mem_cons_self
        have hl := smn l fun k hk => h3 k (List.mem_cons_of_mem _ hk)
        rw [ends] at hz
        rcases List.mem_cons.mp hz with rfl | hz
        · rw [xst_cl hBE gj]
          unfold cl
          (repeat' split) <;> grind
        · exact ih (e + g j) (by grind) (by grind) (fun k hk => h3 k (List.mem_cons_of_mem _ hk)) z hz
    have fstm : ∀ {e : Rat} {l : List Nat} {z : Nat × Rat}, z ∈ ends g e l → z.1 ∈ l := fun {e l z} hz => by
      have := ends_fst g e l
      rw [← this]
      exact List.mem_map.mpr ⟨z, hz, rfl⟩
    by_cases c : B < e + g i ∨ r = []
    · refine ⟨w i, ⟨i, List.mem_cons_self, rfl⟩, fun z hz => ?_⟩
      rw [ends] at hz
      rcases List.mem_cons.mp hz with rfl | hz
      · simp only
        have : ab (w i - w i) = 0 := ab_le (by grind)
        rw [this]
        grind
      · rcases c with c | rfl
        · have hj := fstm hz
          rw [full r (e + g i) (by grind) (by grind) (fun j hj => hg j (List.mem_cons_of_mem _ hj)) z hz]
          have := s1 _ hj
          have e1 : ab (w z.1 - w i) = w z.1 - w i := by unfold ab; split <;> grind
          rw [e1]
        · cases hz
    · rw [not_or] at c
      obtain ⟨u, ⟨j, hj, hu⟩, ih⟩ := piv_hot g w r (e + g i) c.2 (fun j hj => hg j (List.mem_cons_of_mem _ hj)) s2 (by grind) hBE
      refine ⟨u, ⟨j, List.mem_cons_of_mem _ hj, hu⟩, fun z hz => ?_⟩
      rw [ends] at hz
      rcases List.mem_cons.mp hz with rfl | hz
      · simp only
        have h1 : xst B E e (g i) = 0 := by
          rw [xst_cl hBE gi]
          unfold cl
          have := c.1
          (repeat' split) <;> grind
        have h2 := s1 j hj
        have h3 : ab (w i - u) = 0 := ab_le (by grind)
        rw [h1, h3]
        grind
      · exact ih z hz
/-- the pivot, cold: B ahead of all -/
theorem piv_cold (g w : Nat → Rat) {B E : Rat} : ∀ (P : List Nat) (e : Rat), P ≠ [] → (∀ i ∈ P, 0 ≤ g i) → srt w P → B ≤ e → B ≤ E → ∃ u, (∃ i ∈ P, u = w i) ∧ ∀ z ∈ ends g e P, xst B E z.2 (g z.1) * (u - w z.1) = g z.1 * ab (u - w z.1)
  | [], _, h, _, _, _, _ => (h rfl).elim
  | i :: r, e, _, hg, hs, hB, hBE => by
    obtain ⟨s1, s2⟩ := List.pairwise_cons.mp hs
    have gi := hg i List.mem_cons_self
    have none : ∀ (l : List Nat) (e : Rat), E ≤ e → (∀ j ∈ l, 0 ≤ g j) → ∀ z ∈ ends g e l, xst B E z.2 (g z.1) = 0 := by
      intro l
      induction l with
      | nil => intro _ _ _ z hz; cases hz
      | cons j l ih =>
        intro e h1 h3 z hz
        have gj := h3 j List.mem_cons_self
        rw [ends] at hz
        rcases List.mem_cons.mp hz with rfl | hz
        · rw [xst_cl hBE gj]
          unfold cl
          (repeat' split) <;> grind
        · exact ih (e + g j) (by grind) (fun k hk => h3 k (List.mem_cons_of_mem _ hk)) z hz
    have fstm : ∀ {e : Rat} {l : List Nat} {z : Nat × Rat}, z ∈ ends g e l → z.1 ∈ l := fun {e l z} hz => by
      have := ends_fst g e l
      rw [← this]
      exact List.mem_map.mpr ⟨z, hz, rfl⟩
    by_cases c : E ≤ e + g i ∨ r = []
    · refine ⟨w i, ⟨i, List.mem_cons_self, rfl⟩, fun z hz => ?_⟩
      rw [ends] at hz
      rcases List.mem_cons.mp hz with rfl | hz
      · simp only
        have : ab (w i - w i) = 0 := ab_le (by grind)
        rw [this]
        grind
      · rcases c with c | rfl
        · have hj := fstm hz
          rw [none r (e + g i) c (fun j hj => hg j (List.mem_cons_of_mem _ hj)) z hz]
          have := s1 _ hj
          have e1 : ab (w i - w z.1) = 0 := ab_le (by grind)
          rw [e1]
          grind
        · cases hz
    · rw [not_or] at c
      obtain ⟨u, ⟨j, hj, hu⟩, ih⟩ := piv_cold g w r (e + g i) c.2 (fun j hj => hg j (List.mem_cons_of_mem _ hj)) s2 (by grind) hBE
      refine ⟨u, ⟨j, List.mem_cons_of_mem _ hj, hu⟩, fun z hz => ?_⟩
      rw [ends] at hz
      rcases List.mem_cons.mp hz with rfl | hz
      · simp only
        have h1 : xst B E e (g i) = g i := by
          rw [xst_cl hBE gi]
          unfold cl
          have := c.1
          (repeat' split) <;> grind
        have h2 := s1 j hj
        have h3 : ab (u - w i) = u - w i := by unfold ab; split <;> grind
        rw [h1, h3]
      · exact ih z hz
end MC

end
section
namespace MC
open PySem PySem.Spec L2 DL MW
def hotP (b : Bd) (V : Rat) : Rat := mixH b (stretchP b (tot b - V) (tot b))
def coldP (b : Bd) (V : Rat) : Rat := mixH b (stretchP b 0 V)
theorem ends_sum (b : Bd) (φ : Rat × Rat → Rat) : sm ((endsP b).map fun z => φ (b.getD z.1 (0, 0))) = sm (b.map φ) := by
  have hp := ((endsP_ok b).2.2).map fun i => φ (b.getD i (0, 0))
  have h := sm_perm hp
  rw [List.map_map] at h
  rw [show (fun z : Nat × Rat => φ (b.getD z.1 (0, 0))) = (fun i => φ (b.getD i (0, 0))) ∘ fun z => z.1 from rfl, h]
  congr 1
  apply List.ext_getElem?
  intro i
  rw [List.getElem?_map, List.getElem?_map]
  by_cases hi : i < b.length
  · rw [List.getElem?_range hi, getD_mem hi]; rfl
  · rw [List.getElem?_eq_none (by rw [List.length_range]; omega), List.getElem?_eq_none (by omega)]; rfl
theorem stretch_volE {b : Bd} {B E : Rat} (hb : ∀ x ∈ b, 0 < x.1) (h0 : 0 ≤ B) (h1 : B ≤ E) (h2 : E ≤ tot b) : sm ((endsP b).map fun z => xst B E z.2 (fl b z.1)) = E - B := by
  have h := stretch_sum b B E (fun q _ => q)
  have e : ((stretchP b B E).zip b).map (fun z => z.1) = stretchP b B E := by
    rw [List.map_fst_zip]
    rw [(stretch_get b B E).1]
    omega
  rw [e, stretch_vol hb h0 h1 h2] at h
  exact h.symm
theorem sm_congr {A : Type} {f g : A → Rat} {l : List A} (h : ∀ x ∈ l, f x = g x) : sm (l.map f) = sm (l.map g) := by
  congr 1
  exact List.map_congr_left h
section
variable {b : Bd} {V : Rat}
theorem wm_srt (b : Bd) : srt (wm b) (riseP (wq b)) := by
  have h := riseP_srt (wq b)
  refine h.imp_of_mem fun {i j} hi hj hij => ?_
  have hi := riseW_lt hi
  have hj := riseW_lt hj
  have e : ∀ {k : Nat}, k < b.length → gq (wq b) k = wm b k := fun {k} hk => by
    have := gq_get (qs := wq b) (i := k) (by rw [wq, List.length_map]; exact hk)
    rw [wq, List.getElem?_map, getD_mem hk] at this
    exact (Option.some.inj this).symm
  rw [e hi, e hj] at hij
  exact hij
theorem rise_ne (h : 1 ≤ b.length) : riseP (wq b) ≠ [] := by
  intro z
  have := riseP_len (wq b)
  rw [z, wq, List.length_map] at this
  simp at this
  omega
theorem hot_is (hb : okB b) (h0 : 0 ≤ V) (h1 : V ≤ tot b) : IsHot b V (hotP b V) := by
  have hv := stretch_okS (B := tot b - V) (E := tot b) hb.2
  have hvol := stretch_vol (B := tot b - V) (E := tot b) hb.2 (by grind) (by grind) (by grind)
  have eV : tot b - (tot b - V) = V := by grind
  rw [eV] at hvol
  refine ⟨fun w => ?_, ?_⟩
  · have := set_hot w hv
    rw [hvol] at this
    exact this
  · have et := tot_rise b
    obtain ⟨u, _, hu⟩ := piv_hot (fl b) (wm b) (B := tot b - V) (E := tot b) (riseP (wq b)) 0 (rise_ne hb.1.1) (fun i hi => by have := fl_pos hb.2 (riseW_lt hi); grind) (wm_srt b) (by rw [et]; grind) (by grind)
    refine ⟨u, ?_⟩
    have s1 := stretch_sum b (tot b - V) (tot b) (fun q x => q * x.2)
    have s2 := stretch_volE (B := tot b - V) (E := tot b) hb.2 (by grind) (by grind) (by grind)
    have s3 := ends_sum b fun x => x.1 * ab (x.2 - u)
    rw [eV] at s2
    show mixH b (stretchP b (tot b - V) (tot b)) = u * V + exc b u
    unfold mixH exc
    rw [s1, ← s3]
    have e : u * sm ((endsP b).map fun z => xst (tot b - V) (tot b) z.2 (fl b z.1)) = sm ((endsP b).map fun z => xst (tot b - V) (tot b) z.2 (fl b z.1) * u) := by
      rw [sm_scale]; grind
    rw [s2] at e
    rw [e, ← sm_add]
    refine sm_congr fun z hz => ?_
    have h : xst (tot b - V) (tot b) z.2 (fl b z.1) * ((b.getD z.1 (0, 0)).2 - u) = (b.getD z.1 (0, 0)).1 * ab ((b.getD z.1 (0, 0)).2 - u) := hu z hz
    show xst (tot b - V) (tot b) z.2 (fl b z.1) * (b.getD z.1 (0, 0)).2 = xst (tot b - V) (tot b) z.2 (fl b z.1) * u + (b.getD z.1 (0, 0)).1 * ab ((b.getD z.1 (0, 0)).2 - u)
    clear hu s1 s2 s3 e hvol hv et eV
    generalize xst (tot b - V) (tot b) z.2 (fl b z.1) = X at h ⊢
    generalize b.getD z.1 (0, 0) = x at h ⊢
    have e1 : X * (x.2 - u) = X * x.2 - X * u := by grind
    rw [e1] at h
    rw [← h]
    grind
theorem cold_is (hb : okB b) (h0 : 0 ≤ V) (h1 : V ≤ tot b) : IsCold b V (coldP b V) := by
  have hv := stretch_okS (B := 0) (E := V) hb.2
  have hvol := stretch_vol (B := 0) (E := V) hb.2 (by grind) (by grind) (by grind)
  have eV : V - 0 = V := by grind
  rw [eV] at hvol
  refine ⟨fun w => ?_, ?_⟩
  · have := set_cold w hv
    rw [hvol] at this
    exact this
  · obtain ⟨u, _, hu⟩ := piv_cold (fl b) (wm b) (B := 0) (E := V) (riseP (wq b)) 0 (rise_ne hb.1.1) (fun i hi => by have := fl_pos hb.2 (riseW_lt hi); grind) (wm_srt b) (by grind) (by grind)
    refine ⟨u, ?_⟩
    have s1 := stretch_sum b 0 V (fun q x => q * x.2)
    have s2 := stretch_volE (B := 0) (E := V) hb.2 (by grind) (by grind) (by grind)
    have s3 := ends_sum b fun x => x.1 * ab (u - x.2)
    rw [eV] at s2
    show mixH b (stretchP b 0 V) = u * V - lck b u
    unfold mixH lck
    rw [s1, ← s3]
    have e : u * sm ((endsP b).map fun z => xst 0 V z.2 (fl b z.1)) = sm ((endsP b).map fun z => xst 0 V z.2 (fl b z.1) * u) := by
      rw [sm_scale]; grind
    rw [s2] at e
    rw [e]
    have key : sm ((endsP b).map fun z => xst 0 V z.2 (fl b z.1) * u) = sm ((endsP b).map fun z => xst 0 V z.2 (fl b z.1) * (b.getD z.1 (0, 0)).2) + sm ((endsP b).map fun z => (b.getD z.1 (0, 0)).1 * ab (u - (b.getD z.1 (0, 0)).2)) := by
      rw [← sm_add]
      refine sm_congr fun z hz => ?_
      have := hu z hz
      unfold fl wm at this
      unfold fl
      grind
    rw [key]
    grind
/-- any setting's heat lies within -/
theorem set_within (hb : okB b) {v : List Rat} (hv : okS b v) (h0 : 0 ≤ sm v) (h1 : sm v ≤ tot b) : coldP b (sm v) ≤ mixH b v ∧ mixH b v ≤ hotP b (sm v) := by
  obtain ⟨_, w, hw⟩ := hot_is hb h0 h1
  obtain ⟨_, u, hu⟩ := cold_is hb h0 h1
  rw [hw, hu]
  exact ⟨set_cold u hv, set_hot w hv⟩
theorem cold_hot (hb : okB b) (h0 : 0 ≤ V) (h1 : V ≤ tot b) : coldP b V ≤ hotP b V := by
  obtain ⟨_, w, hw⟩ := hot_is hb h0 h1
  have hv := stretch_okS (B := 0) (E := V) hb.2
  have hvol := stretch_vol (B := 0) (E := V) hb.2 (by grind) (by grind) (by grind)
  have := set_hot w hv
  rw [hvol] at this
  rw [hw]
  show mixH b (stretchP b 0 V) ≤ _
  have e : V - 0 = V := by grind
  rw [e] at this
  exact this
end
/-! ### their walk -/
def eD (z : Nat × Rat) : D := .tup [nD z.1, frD z.2]
section
variable {b : Bd} {N M m : Nat}
theorem fl_lat (hlat : ∀ x ∈ b, lat N M x.1) {i : Nat} (hi : i < b.length) : lat N M (fl b i) := hlat _ (List.mem_of_getElem? (getD_mem hi))
theorem endsof_ok (hN : N ≠ 0) (hlat : ∀ x ∈ b, lat N M x.1) (hs : szB m b) (hl : b.length ≤ 8) (hm : m ≤ 4000) (h1 : N < 2 ^ 300) (h2 : 9 * M < 2 ^ 300) (p : Pool) : MC.m_ends_of [bdD b] p = .ok (.lst ((endsP b).map eD)) p := by
  have l := loopF_foldR (t := pN true 3) (b := MC.l_ends_of_1) (ks := [3]) (p := p) (fun s : List (Nat × Rat) × Rat => [some (bdD b), some (.lst (s.1.map eD)), some (frD s.2), none])
    nD (fun s i => (s.1 ++ [(i, s.2)], s.2 + fl b i)) (fun r s => (∀ i ∈ r, i < b.length) ∧ (∃ k, lat N (M * k) s.2 ∧ k + r.length ≤ 8) ∧ s.1.length + r.length ≤ 8) (riseP (wq b)) ([], 0)
    ⟨fun i hi => riseW_lt hi, ⟨0, lat.zero, by rw [riseP_len, wq, List.length_map]; omega⟩, by rw [riseP_len, wq, List.length_map]; simpa using hl⟩ (fun i r s ⟨j1, ⟨k, j2, j3⟩, j4⟩ => by
    have hi := j1 i List.mem_cons_self
    rw [List.length_cons] at j3 j4
    have hf := fl_lat hlat hi
    have hadd := j2.add hN hf
    refine ⟨⟨fun j hj => j1 j (List.mem_cons_of_mem _ hj), ⟨k + 1, hadd.mono (by rw [Nat.mul_add]; omega), by omega⟩, by simp; omega⟩, ?_⟩
    have hk8 : M * k ≤ M * 8 := Nat.mul_le_mul_left _ (by omega)
    have z1 := j2.szR hN h1 (show M * k < 2 ^ 300 by omega)
    have z2 := hf.szR hN h1 (show M < 2 ^ 300 by omega)
    have pl := fun p => plus_ok z1 z2 (by decide) p
    have ib := gtb b hi
    have ix : ixD (tapD (b.getD i (0, 0))) (.int 0) = some (frD (fl b i)) := ixT0 _ _
    have ap : appD (s.1.map eD) [.tup [nD i, frD s.2]] = some ((s.1 ++ [(i, s.2)]).map eD) := by
      rw [appD_ok (by simp [nD, free_frD]) (by rw [List.length_map]; omega)]
      simp [eD]
    refine ⟨[some (bdD b), some (.lst (s.1.map eD)), some (frD s.2), some (nD i)], [some (bdD b), some (.lst ((s.1 ++ [(i, s.2)]).map eD)), some (frD (s.2 + fl b i)), some (nD i)], rfl, ?_, rfl⟩
    generalize (s.1 ++ [(i, s.2)]).map eD = L2 at *
    generalize s.1.map eD = L1 at *
    generalize bdD b = BB at *
    generalize tapD (b.getD i (0, 0)) = TT at *
    have ib' : ixD BB (nD i) = some TT := ib
    simp [MC.l_ends_of_1, tupO_of, ap, ib', ix, pl, free_frD])
  have l1 := l.1
  rw [ends_foldl, List.nil_append] at l1
  simp only [List.map_nil] at l1
  rw [frD_zero] at l1
  have rt := rtaps_ok hs (show b.length ≤ 1000 by omega) hm p
  have hf : D.frees ((riseP (wq b)).map nD) = true := frees_map (fun _ => rfl) _
  have e : ends (fl b) 0 (riseP (wq b)) = endsP b := rfl
  rw [e] at l1
  generalize (riseP (wq b)).map nD = PL at *
  generalize (endsP b).map eD = EL at *
  generalize bdD b = BB at *
  simp [MC.m_ends_of, MC.p_ends_of, MC.r_ends_of, runV_ap, sParO_ap, lstO_of, rt, hf, l1]
theorem xst_lat {B E e f : Rat} {k1 k2 k3 : Nat} (hN : N ≠ 0) (hB : lat N k1 B) (hE : lat N k1 E) (he : lat N k2 e) (hf : lat N k3 f) : lat N (k1 + k2 + k3 + (k1 + k2)) (xst B E e f) := by
  unfold xst
  refine lat.ab (lat.sub hN ?_ ?_)
  · split
    · exact (he.add hN hf).mono (by omega)
    · exact hE.mono (by omega)
  · split
    · exact hB.mono (by omega)
    · exact he.mono (by omega)
theorem ends_lat (hN : N ≠ 0) (hlat : ∀ x ∈ b, lat N M x.1) : ∀ (P : List Nat) (e : Rat) (k : Nat), (∀ i ∈ P, i < b.length) → lat N (M * k) e → ∀ z ∈ ends (fl b) e P, lat N (M * (k + P.length)) z.2
  | [], _, _, _, _, z, hz => by cases hz
  | i :: r, e, k, hP, he, z, hz => by
    rw [ends] at hz
    rcases List.mem_cons.mp hz with rfl | hz
    · exact he.mono (Nat.mul_le_mul_left _ (by omega))
    · have := ends_lat hN hlat r (e + fl b i) (k + 1) (fun j hj => hP j (List.mem_cons_of_mem _ hj)) ((he.add hN (fl_lat hlat (hP i List.mem_cons_self))).mono (by rw [Nat.mul_add]; omega)) z hz
      rw [List.length_cons]
      exact this.mono (Nat.mul_le_mul_left _ (by omega))
theorem endsP_lat (hN : N ≠ 0) (hlat : ∀ x ∈ b, lat N M x.1) (hl : b.length ≤ 8) {z : Nat × Rat} (hz : z ∈ endsP b) : lat N (M * 8) z.2 := by
  refine (ends_lat hN hlat _ 0 0 (fun i hi => riseW_lt hi) lat.zero z hz).mono (Nat.mul_le_mul_left _ ?_)
  rw [riseP_len, wq, List.length_map]
  omega
variable {B E V : Rat} {K : Nat}
theorem stretch_lat (hN : N ≠ 0) (hlat : ∀ x ∈ b, lat N M x.1) (hl : b.length ≤ 8) (hB : lat N K B) (hE : lat N K E) : ∀ q ∈ stretchP b B E, lat N (2 * K + 17 * M) q := by
  intro q hq
  obtain ⟨hlen, hg⟩ := stretch_get b B E
  obtain ⟨i, hi⟩ := List.mem_iff_getElem?.mp hq
  have hib : i < b.length := by have := (List.getElem?_eq_some_iff.mp hi).1; omega
  have hm : i ∈ (endsP b).map fun z => z.1 := (endsP_ok b).2.2.mem_iff.mpr (List.mem_range.mpr hib)
  obtain ⟨y, hy, rfl⟩ := List.mem_map.mp hm
  have e := hg y hy
  rw [hi] at e
  rw [Option.some.inj e]
  exact (xst_lat hN hB hE (endsP_lat hN hlat hl hy) (fl_lat hlat hib)).mono (by omega)
theorem stretchat_ok (hN : N ≠ 0) (hlat : ∀ x ∈ b, lat N M x.1) (hs : szB m b) (hl : b.length ≤ 8) (hm : m ≤ 4000) (h1 : N < 2 ^ 300) (hB : lat N K B) (hE : lat N K (B + V)) (hV : lat N K V) (h2 : 2 * K + 17 * M < 2 ^ 300) (p : Pool) : MC.m_stretch_at [bdD b, frD B, frD V] p = .ok (stD (stretchP b B (B + V))) p := by
  have zB := hB.szR hN h1 (show K < 2 ^ 300 by omega)
  have zE := hE.szR hN h1 (show K < 2 ^ 300 by omega)
  have zV := hV.szR hN h1 (show K < 2 ^ 300 by omega)
  have hends := endsP_ok b
  have hEl : (endsP b).length = b.length := by
    have := hends.2.2.length_eq
    rw [List.length_map, List.length_range] at this
    exact this
  generalize hEE : B + V = E at *
  have l := loopF_foldR (t := pT [pN true 5, pN true 6]) (b := MC.l_stretch_at_2) (ks := [5, 6, 7, 8]) (p := p) (fun Y : List Rat => [some (bdD b), some (frD B), some (frD V), some (.lst (Y.map frD)), some (frD E), none, none, none, none, none])
    eD (strS b B E) (fun r Y => (∀ z ∈ r, z.1 < b.length ∧ lat N (M * 8) z.2) ∧ Y.length = b.length) (endsP b) (shutS b) ⟨fun z hz => ⟨hends.2.1 z hz, endsP_lat hN hlat hl hz⟩, by rw [shutS, List.length_map]⟩ (fun z r Y ⟨j1, j2⟩ => by
    obtain ⟨hi, he⟩ := j1 z List.mem_cons_self
    refine ⟨⟨fun y hy => j1 y (List.mem_cons_of_mem _ hy), by unfold strS; rw [List.length_set]; exact j2⟩, ?_⟩
    have hf := fl_lat hlat hi
    have ze := he.szR hN h1 (show M * 8 < 2 ^ 300 by omega)
    have zf := hf.szR hN h1 (show M < 2 ^ 300 by omega)
    have zef := (he.add hN hf).szR hN h1 (show M * 8 + M < 2 ^ 300 by omega)
    have f1 := fun p => greater_ok ze zB (by decide) p
    have f2 := fun p => plus_ok ze zf (by decide) p
    have f3 : ∀ p, MC.m_lesser_of [frD (z.2 + fl b z.1), frD E] p = .ok (frD (if z.2 + fl b z.1 < E then z.2 + fl b z.1 else E)) p := fun p => by
      simp [MC.m_lesser_of, MC.b_lesser_of, runB_ap, lessc_ok zef zE (by decide)]
      split <;> rfl
    have zl : szR 300 (if z.2 < B then B else z.2) := by split <;> assumption
    have zh : szR 300 (if z.2 + fl b z.1 < E then z.2 + fl b z.1 else E) := by split <;> assumption
    have f4 := fun p => minus_ok zh zl (by decide) p
    have f5 := fun p => above_ok (n := 601) (szR_sub zh zl) (by decide) (by decide) p
    have ib := gtb b hi
    have ix : ixD (tapD (b.getD z.1 (0, 0))) (.int 0) = some (frD (fl b z.1)) := ixT0 _ _
    have nx : ixN Y.length (z.1 : Nat) = some z.1 := by
      unfold ixN
      rw [if_pos (by omega), if_pos (by omega)]
      simp
    have st : (Y.map frD).set z.1 (frD (xst B E z.2 (fl b z.1))) = (strS b B E Y z).map frD := by unfold strS; rw [List.map_set]
    have ef : ab ((if z.2 + fl b z.1 < E then z.2 + fl b z.1 else E) - (if z.2 < B then B else z.2)) = xst B E z.2 (fl b z.1) := rfl
    rw [ef] at f5
    generalize (if z.2 < B then B else z.2) = low at *
    generalize (if z.2 + fl b z.1 < E then z.2 + fl b z.1 else E) = high at *
    generalize xst B E z.2 (fl b z.1) = xx at *
    refine ⟨[some (bdD b), some (frD B), some (frD V), some (.lst (Y.map frD)), some (frD E), some (nD z.1), some (frD z.2), none, none, none], [some (bdD b), some (frD B), some (frD V), some (.lst ((strS b B E Y z).map frD)), some (frD E), some (nD z.1), some (frD z.2), some (frD low), some (frD high), none], rfl, ?_, rfl⟩
    rw [← st]
    generalize bdD b = BB at *
    generalize tapD (b.getD z.1 (0, 0)) = TT at *
    have ib' : ixD BB (nD z.1) = some TT := ib
    have nd : asI (nD z.1) = some (z.1 : Int) := rfl
    simp [MC.l_stretch_at_2, f1, f2, f3, f4, f5, ib', ix, free_frD, nd, nx])
  have l1 := l.1
  have es : (endsP b).foldl (strS b B E) (shutS b) = stretchP b B E := rfl
  rw [es] at l1
  have eo := endsof_ok hN hlat hs hl hm h1 (show 9 * M < 2 ^ 300 by omega) p
  have fE : D.frees ((endsP b).map eD) = true := frees_map (fun z => by simp [eD, nD, free_frD]) _
  have fS : D.frees ((shutS b).map frD) = true := frees_map (fun q => free_frD q) _
  have pl := plus_ok zB zV (by decide) p
  rw [hEE] at pl
  have lz := lcM_mapT (t := pN true 9) (f := MC.e_stretch_at_1) (ε := [some (bdD b), some (frD B), some (frD V), none, none, none, none, none, none, none]) (p := p) tapD (fun _ => frD 0) b fun x hx => ⟨_, by simp [tapD, free_frD]; rfl, by simp [MC.e_stretch_at_1, frD_zero]⟩
  have ez : b.map (fun _ => frD 0) = (shutS b).map frD := by rw [shutS, List.map_map]; rfl
  rw [ez] at lz
  have it : iSeq (dVar 0) [some (bdD b), some (frD B), some (frD V), none, none, none, none, none, none, none] p = .ok (b.map tapD) p := rfl
  have sL : dLc (iSeq (dVar 0)) [9] (pN true 9) dYes MC.e_stretch_at_1 [some (bdD b), some (frD B), some (frD V), none, none, none, none, none, none, none] p = .ok (.lst ((shutS b).map frD)) p := by
    have b' : wipeE [some (bdD b), some (frD B), some (frD V), none, none, none, none, none, none, none] [9] = [some (bdD b), some (frD B), some (frD V), none, none, none, none, none, none, none] := rfl
    rw [dLc_ap, it, ok_thn, if_pos (by rw [List.length_map]; omega), b', noEx_ap, lz]
    rfl
  have tu : tupleD [.lst ((stretchP b B E).map frD)] = some (stD (stretchP b B E)) := rfl
  generalize (stretchP b B E).map frD = SL at *
  generalize stD (stretchP b B E) = SD at *
  generalize (shutS b).map frD = ZL at *
  generalize (endsP b).map eD = EL at *
  clear l lz it
  generalize bdD b = BB at *
  show (MC.b_stretch_at [some BB, some (frD B), some (frD V), none, none, none, none, none, none, none] p).run = _
  unfold MC.b_stretch_at
  have q1 : sParO 3 4 (dLc (iSeq (dVar 0)) [9] (pN true 9) dYes MC.e_stretch_at_1) (dCall 2 MC.m_plus (dCons (dVar 1) (dCons (dVar 2) dNil))) [some BB, some (frD B), some (frD V), none, none, none, none, none, none, none] p = .ok (.nx [some BB, some (frD B), some (frD V), some (.lst ZL), some (frD E), none, none, none, none, none]) p := by
    rw [sParO_ap, sL, ok_sx, newL_ok _ fS, ofO_some, ok_thn]
    simp [pl, free_frD]
  rw [sSeq_ap, q1, nxt_nx, sSeq_ap]
  simp [eo, fE, l1, tu]
end
end MC

end
section
namespace MC
open PySem PySem.Spec L2 DL MW
/-- flows of a common bottom, of fair size with volumes up to K -/
structure OkL (N M K m : Nat) (b : Bd) : Prop where
  n0 : N ≠ 0
  n1 : N < 2 ^ 300
  k1 : 33 * M + 2 * K < 2 ^ 300
  m1 : m ≤ 198
  sz : szB m b
  lt : ∀ x ∈ b, lat N M x.1
section
variable {b : Bd} {N M K m : Nat} {B V H : Rat}
theorem OkL.sz200 (h : OkL N M K m b) : szB 200 b := fun x hx => ⟨(h.sz x hx).1.mono (by have := h.m1; omega), (h.sz x hx).2.mono (by have := h.m1; omega)⟩
theorem tot_lat (hN : N ≠ 0) (hlat : ∀ x ∈ b, lat N M x.1) (hl : b.length ≤ 8) : lat N (8 * M) (tot b) := by
  have h := lat.sm hN (l := b.map fun x => x.1) (M := M) fun q hq => by
    obtain ⟨x, hx, rfl⟩ := List.mem_map.mp hq
    exact hlat x hx
  rw [List.length_map] at h
  exact h.mono (by rw [Nat.mul_comm 8]; exact Nat.mul_le_mul_left _ hl)
theorem OkL.szV (h : OkL N M K m b) (hV : lat N K V) : szR 300 V := hV.szR h.n0 h.n1 (by have := h.k1; omega)
theorem OkL.szT (h : OkL N M K m b) (hl : b.length ≤ 8) : szR 300 (tot b) := (tot_lat h.n0 h.lt hl).szR h.n0 h.n1 (by have := h.k1; omega)
theorem heatat_ok (h : OkL N M K m b) (hb : okB b) (hB : lat N (8 * M + K) B) (hE : lat N (8 * M + K) (B + V)) (hV : lat N K V) (p : Pool) : MC.m_heat_at [bdD b, frD B, frD V] p = .ok (frD (mixH b (stretchP b B (B + V)))) p := by
  have s := stretchat_ok (K := 8 * M + K) h.n0 h.lt h.sz hb.1.2 (by have := h.m1; omega) h.n1 hB hE (hV.mono (by omega)) (by have := h.k1; omega) p
  have sl := stretch_lat h.n0 h.lt hb.1.2 hB hE
  have mx := mixby_ok (n := 300) h.sz hb.1.2 (v := stretchP b B (B + V)) (fun q hq => (sl q hq).szR h.n0 h.n1 (by have := h.k1; omega)) (stretch_get b B (B + V)).1 (by have := h.m1; omega) p
  have i1 : ixD (mxD (mixP b (stretchP b B (B + V)))) (.int 1) = some (frD (mixH b (stretchP b B (B + V)))) := ixT1 _ _ _
  generalize mxD (mixP b (stretchP b B (B + V))) = X at *
  generalize stD (stretchP b B (B + V)) = S at *
  generalize bdD b = BB at *
  simp [MC.m_heat_at, MC.b_heat_at, runB_ap, s, mx, i1]
theorem heatsat_ok (h : OkL N M K m b) (hb : okB b) (hV : lat N K V) (p : Pool) : MC.m_heats_at [bdD b, frD V] p = .ok (mxD (coldP b V, hotP b V)) p := by
  have hT := tot_lat h.n0 h.lt hb.1.2
  have c := heatat_ok (B := 0) h hb (lat.zero.mono (by omega)) (by rw [Rat.zero_add]; exact hV.mono (by omega)) hV p
  have d := heatat_ok (B := tot b - V) h hb (hT.sub h.n0 hV) (by rw [show tot b - V + V = tot b by grind]; exact hT.mono (by omega)) hV p
  rw [Rat.zero_add, frD_zero] at c
  rw [show tot b - V + V = tot b by grind] at d
  have t := totalof_ok h.sz hb.1.2 (by have := h.m1; omega) p
  have mi := minus_ok (h.szT hb.1.2) (h.szV hV) (by decide) p
  have e1 : mixH b (stretchP b 0 V) = coldP b V := rfl
  have e2 : mixH b (stretchP b (tot b - V) (tot b)) = hotP b V := rfl
  rw [e1] at c
  rw [e2] at d
  simp [MC.m_heats_at, MC.b_heats_at, runB_ap, c, d, t, mi, tupO_of, mxD]
theorem szR_cold (h : OkL N M K m b) (hb : okB b) (hV : lat N K V) : szR (1 + (301 + m) * 8) (coldP b V) ∧ szR (1 + (301 + m) * 8) (hotP b V) := by
  have hT := tot_lat h.n0 h.lt hb.1.2
  have k1 := h.k1
  have s1 := stretch_lat (K := 8 * M + K) h.n0 h.lt hb.1.2 (B := 0) (E := V) (lat.zero.mono (by omega)) (hV.mono (by omega))
  have s2 := stretch_lat (K := 8 * M + K) h.n0 h.lt hb.1.2 (hT.sub h.n0 hV) (hT.mono (show 8 * M ≤ 8 * M + K by omega))
  have z1 := (szR_mix h.sz hb.1.2 (n := 300) (v := stretchP b 0 V) (fun q hq => (s1 q hq).szR h.n0 h.n1 (by omega)) (stretch_get b 0 V).1).2
  have z2 := (szR_mix h.sz hb.1.2 (n := 300) (v := stretchP b (tot b - V) (tot b)) (fun q hq => (s2 q hq).szR h.n0 h.n1 (by omega)) (stretch_get b _ _).1).2
  exact ⟨z1.mono (by omega), z2.mono (by omega)⟩
theorem checkwithin_ok (h : OkL N M K m b) (hb : okB b) (hV : lat N K V) (h0 : 0 ≤ V) (h1 : V ≤ tot b) (p : Pool) : MC.m_check_within [bdD b, frD V] p = .ok .non p := by
  have t := totalof_ok h.sz hb.1.2 (by have := h.m1; omega) p
  have l := lessc_ok (h.szT hb.1.2) (h.szV hV) (by decide) p
  have hn : ¬ tot b < V := by grind
  simp [MC.m_check_within, MC.b_check_within, MC.m_check_volume_from, MC.b_check_volume_from, runB_ap, checkB_ok hb h.sz200, fromnq_ok, h0, t, l, hn]
theorem hottest_ok (h : OkL N M K m b) (hb : okB b) (hV : lat N K V) (h0 : 0 ≤ V) (h1 : V ≤ tot b) (p : Pool) : MC.m_hottest [bdD b, frD V] p = .ok (frD (hotP b V)) p := by
  have i1 : ixD (mxD (coldP b V, hotP b V)) (.int 1) = some (frD (hotP b V)) := ixT1 _ _ _
  simp [MC.m_hottest, MC.b_hottest, runB_ap, checkwithin_ok h hb hV h0 h1, heatsat_ok h hb hV, i1]
theorem coldest_ok (h : OkL N M K m b) (hb : okB b) (hV : lat N K V) (h0 : 0 ≤ V) (h1 : V ≤ tot b) (p : Pool) : MC.m_coldest [bdD b, frD V] p = .ok (frD (coldP b V)) p := by
  have i1 : ixD (mxD (coldP b V, hotP b V)) (.int 0) = some (frD (coldP b V)) := ixT0 _ _
  simp [MC.m_coldest, MC.b_coldest, runB_ap, checkwithin_ok h hb hV h0 h1, heatsat_ok h hb hV, i1]
def gives (b : Bd) (V H : Rat) : Bool := decide (V ≤ tot b) && (decide (coldP b V ≤ H) && decide (H ≤ hotP b V))
theorem nlt (a b : Rat) : (!decide (a < b)) = decide (b ≤ a) := by
  rw [Bool.eq_iff_iff]
  simp only [Bool.not_eq_true', decide_eq_false_iff_not, decide_eq_true_eq]
  constructor <;> intro h <;> grind
theorem doesgive_ok (h : OkL N M K m b) (hb : okB b) (hV : lat N K V) (h0 : 0 ≤ V) {n : Nat} (hH : szR n H) (hn : n ≤ 4000) (p : Pool) : MC.m_does_give [bdD b, mxD (V, H)] p = .ok (.bl (gives b V H)) p := by
  have t := totalof_ok h.sz hb.1.2 (by have := h.m1; omega) p
  have l := lessc_ok (h.szT hb.1.2) (h.szV hV) (by decide) p
  have z := szR_cold h hb hV
  have m1 := h.m1
  have l1 := lessc_ok (n := 4000) (hH.mono hn) (z.1.mono (by omega)) (by decide) p
  have l2 := lessc_ok (n := 4000) (z.2.mono (by omega)) (hH.mono hn) (by decide) p
  have hs := heatsat_ok h hb hV p
  have cm := checkmix_ok (x := (V, H)) h0 p
  have cb := checkB_ok hb h.sz200 p
  simp only [mxD] at hs cm ⊢
  generalize bdD b = BB at *
  by_cases c : tot b < V
  · have e : gives b V H = false := by
      unfold gives
      rw [decide_eq_false (by grind), Bool.false_and]
    rw [e]
    simp [MC.m_does_give, MC.b_does_give, MC.m_check_mixed, MC.b_check_mixed, MC.m_does_give_by, MC.b_does_give_by, runB_ap, cb, cm, t, l, c]
  · have e : gives b V H = ((!decide (H < coldP b V)) && (!decide (hotP b V < H))) := by
      unfold gives
      rw [decide_eq_true (show V ≤ tot b by grind), Bool.true_and, nlt, nlt]
    rw [e]
    simp [MC.m_does_give, MC.b_does_give, MC.m_check_mixed, MC.b_check_mixed, MC.m_does_give_by, MC.b_does_give_by, runB_ap, cb, cm, t, l, c, hs, l1, l2]
    by_cases c1 : H < coldP b V <;> simp [c1]
theorem gives_iff (b : Bd) (V H : Rat) : gives b V H = true ↔ V ≤ tot b ∧ coldP b V ≤ H ∧ H ≤ hotP b V := by
  unfold gives
  simp only [Bool.and_eq_true, decide_eq_true_eq]
/-- boards of the same excess and lack have the same hot and cold -/
theorem hot_same {c : Bd} (hb : okB b) (hc : okB c) (ht : tot b = tot c) (he : ∀ w, exc b w = exc c w) (h0 : 0 ≤ V) (h1 : V ≤ tot b) : hotP b V = hotP c V :=
  (hot_is hb h0 h1).uniq he (hot_is hc h0 (by rw [← ht]; exact h1))
theorem cold_same {c : Bd} (hb : okB b) (hc : okB c) (ht : tot b = tot c) (he : ∀ w, lck b w = lck c w) (h0 : 0 ≤ V) (h1 : V ≤ tot b) : coldP b V = coldP c V :=
  (cold_is hb h0 h1).uniq he (cold_is hc h0 (by rw [← ht]; exact h1))
theorem exc_wsum (b : Bd) (w : Rat) : exc b w = wsum (fun x => ab (x - w)) b := rfl
theorem lck_wsum (b : Bd) (w : Rat) : lck b w = wsum (fun x => ab (w - x)) b := rfl
end
end MC

end
section
namespace MC
open PySem PySem.Spec L2 DL MW
/-! ### normal boards, further -/
theorem foldS_lat {N M : Nat} (hN : N ≠ 0) : ∀ (T A : Bd) (k : Nat), (∀ x ∈ T, lat N M x.1) → (∀ z ∈ A, lat N (M * k) z.1) → ∀ z ∈ T.foldl normS A, lat N (M * (k + T.length)) z.1
  | [], A, k, _, h, z, hz => by simpa using h z hz
  | x :: T, A, k, hT, h, z, hz => by
    rw [List.foldl_cons] at hz
    have hx := hT x List.mem_cons_self
    have step : ∀ z ∈ normS A x, lat N (M * (k + 1)) z.1 := by
      intro z hz
      have up : ∀ z ∈ A, lat N (M * (k + 1)) z.1 := fun z hz => (h z hz).mono (Nat.mul_le_mul_left _ (by omega))
      have ux : lat N (M * (k + 1)) x.1 := hx.mono (by rw [Nat.mul_add]; omega)
      rcases List.eq_nil_or_concat A with rfl | ⟨A', y, rfl⟩
      · rw [normS_nil, List.mem_singleton] at hz
        subst hz
        exact ux
      · rw [List.concat_eq_append] at *
        rw [normS_app] at hz
        split at hz
        · rcases List.mem_append.mp hz with hz | hz
          · exact up z (List.mem_append_left _ hz)
          · rw [List.mem_singleton] at hz
            subst hz
            exact ((h y (by simp)).add hN hx).mono (by rw [Nat.mul_add]; omega)
        · rcases List.mem_append.mp hz with hz | hz
          · exact up z hz
          · rw [List.mem_singleton] at hz; subst hz; exact ux
    have := foldS_lat hN T (normS A x) (k + 1) (fun y hy => hT y (List.mem_cons_of_mem _ hy)) step z hz
    rw [List.length_cons]
    exact this.mono (Nat.mul_le_mul_left _ (by omega))
section
variable {b c : Bd} {N M : Nat}
theorem norm_lat (hN : N ≠ 0) (h : ∀ x ∈ b, lat N M x.1) : ∀ z ∈ normP b, lat N (M * b.length) z.1 := fun z hz => by
  have hp := falT_perm b
  have := foldS_lat hN (falT b) [] 0 (fun x hx => h x (hp.mem_iff.mp hx)) (fun z hz => by cases hz) z hz
  rw [hp.length_eq, Nat.zero_add] at this
  exact this
theorem norm_warm {P : Rat → Prop} (h : ∀ x ∈ b, P x.2) : ∀ z ∈ normP b, P z.2 := fun z hz => by
  obtain ⟨x, hx, e⟩ := ((normP_all b).2.1 z.2).mp ⟨z, hz, rfl⟩
  rw [← e]
  exact h x hx
theorem wsum_zero {φ : Rat → Rat} {A : Bd} (h : ∀ z ∈ A, φ z.2 = 0) : wsum φ A = 0 := by
  induction A with
  | nil => rfl
  | cons x A ih =>
    rw [wsum_cons, h x List.mem_cons_self, ih fun z hz => h z (List.mem_cons_of_mem _ hz)]
    grind
theorem fall_uniq : ∀ {A A' : Bd}, fall A → fall A' → (∀ φ, wsum φ A = wsum φ A') → A.map (fun x => x.2) = A'.map (fun x => x.2) → A = A'
  | [], [], _, _, _, _ => rfl
  | [], _ :: _, _, _, _, h => by simp at h
  | _ :: _, [], _, _, _, h => by simp at h
  | x :: A, y :: A', h1, h2, h3, h4 => by
    obtain ⟨a1, a2⟩ := List.pairwise_cons.mp h1
    obtain ⟨b1, b2⟩ := List.pairwise_cons.mp h2
    rw [List.map_cons, List.map_cons, List.cons.injEq] at h4
    obtain ⟨e, h4⟩ := h4
    have i := h3 fun w => if w = x.2 then 1 else 0
    rw [wsum_cons, wsum_cons, wsum_zero (A := A) (fun z hz => by rw [if_neg]; have := a1 z hz; grind), wsum_zero (A := A') (fun z hz => by rw [if_neg]; have := b1 z hz; grind), if_pos rfl, if_pos e.symm] at i
    have e1 : x.1 = y.1 := by grind
    have ex : x = y := Prod.ext e1 e
    subst ex
    rw [fall_uniq a2 b2 (fun φ => ?_) h4]
    have := h3 φ
    rw [wsum_cons, wsum_cons] at this
    grind
theorem norm_same (h : ∀ φ, wsum φ b = wsum φ c) (hw : ∀ w, (∃ z ∈ b, z.2 = w) ↔ ∃ z ∈ c, z.2 = w) : normP b = normP c := by
  refine fall_uniq (normP_all b).1 (normP_all c).1 (fun φ => ?_) ?_
  · rw [(normP_all b).2.2.1, (normP_all c).2.2.1, h]
  · exact rows_of hw
theorem rows_norm (b : Bd) : rowsP (normP b) = rowsP b := rows_of (normP_all b).2.1
theorem okB_norm (h : okB b) : okB (normP b) := by
  obtain ⟨_, _, _, h4, h5, h6⟩ := normP_all b
  exact ⟨⟨h6 h.1.1, by have := h.1.2; omega⟩, h4 h.2⟩
theorem same_wsum (h : ∀ φ, wsum φ b = wsum φ c) : tot b = tot c ∧ heat b = heat c ∧ (∀ w, exc b w = exc c w) ∧ ∀ w, lck b w = lck c w :=
  ⟨by rw [tot_wsum, tot_wsum, h], by rw [heat_wsum, heat_wsum, h], fun w => by rw [exc_wsum, exc_wsum, h], fun w => by rw [lck_wsum, lck_wsum, h]⟩
variable {m : Nat}
theorem normal_ok (h : okB b) (hs : szB m b) (hm : m ≤ 200) (p : Pool) : MC.m_normal [bdD b] p = .ok (bdD (normP b)) p := by
  simp [MC.m_normal, MC.b_normal, runB_ap, checkB_ok h (fun x hx => ⟨(hs x hx).1.mono hm, (hs x hx).2.mono hm⟩), norm_ok hs h.1.2 (show m ≤ 400 by omega)]
theorem eqvs_taps : ∀ (b c : Bd), eqvs (b.map tapD) (c.map tapD) = decide (b = c)
  | [], [] => by simp
  | [], _ :: _ => by simp
  | _ :: _, [] => by simp
  | x :: b, y :: c => by
    have e : eqv (tapD x) (tapD y) = decide (x = y) := by
      simp only [tapD, eqv_tup, eqvs_cons, eqvs_nil, eqv_frD, Bool.and_true]
      rw [Bool.eq_iff_iff]
      simp only [Bool.and_eq_true, decide_eq_true_eq]
      exact ⟨fun h => Prod.ext h.1 h.2, fun h => by rw [h]; exact ⟨rfl, rfl⟩⟩
    rw [List.map_cons, List.map_cons, eqvs_cons, e, eqvs_taps b c]
    rw [Bool.eq_iff_iff]
    simp
theorem eq_bd (neg : Bool) (b c : Bd) : eqD neg (bdD b) (bdD c) = some (.bl (if neg then !decide (b = c) else decide (b = c))) := by
  have h : (sh 20 (bdD b) && sh 20 (bdD c)) = true := by
    have h1 := sh_taps 17 b
    have h2 := sh_taps 17 c
    simp [bdD, h1, h2]
  rw [eqD_eq _ _ _ h]
  have e : eqv (bdD b) (bdD c) = decide (b = c) := eqvs_taps b c
  rw [e]
theorem alike_ok {n : Nat} (h : okB b) (hs : szB m b) (hm : m ≤ 200) (h' : okB c) (hs' : szB n c) (hn : n ≤ 200) (p : Pool) : MC.m_are_alike [bdD b, bdD c] p = .ok (.bl (decide (normP b = normP c))) p := by
  have c1 := fun p => checkB_ok h (fun x hx => ⟨(hs x hx).1.mono hm, (hs x hx).2.mono hm⟩) p
  have c2 := fun p => checkB_ok h' (fun x hx => ⟨(hs' x hx).1.mono hn, (hs' x hx).2.mono hn⟩) p
  have n1 := fun p => norm_ok hs h.1.2 (show m ≤ 400 by omega) p
  have n2 := fun p => norm_ok hs' h'.1.2 (show n ≤ 400 by omega) p
  have e := eq_bd false (normP b) (normP c)
  generalize bdD (normP b) = X at *
  generalize bdD (normP c) = Y at *
  generalize bdD b = B at *
  generalize bdD c = C at *
  simp [MC.m_are_alike, MC.b_are_alike, MC.m_check_two, MC.b_check_two, MC.m_are_alike_by, MC.b_are_alike_by, runB_ap, c1, c2, n1, n2, e, -eqD_eq]
/-! ### hot and cold, tight -/
variable {K N' M' : Nat} {V : Rat}
theorem mixH_lat (hN : N ≠ 0) (hN' : N' ≠ 0) {v : List Rat} {L : Nat} (hw : ∀ x ∈ b, lat N' M' x.2) (hv : ∀ q ∈ v, lat N L q) (hl : b.length ≤ 8) : lat (N * N') (8 * (L * M')) (mixH b v) := by
  have h := lat.sm (N := N * N') (M := L * M') (Nat.mul_ne_zero hN hN') (l := (v.zip b).map fun z => z.1 * z.2.2) fun q hq => by
    obtain ⟨z, hz, rfl⟩ := List.mem_map.mp hq
    obtain ⟨h1, h2⟩ := List.of_mem_zip (a := z.1) (b := z.2) hz
    exact (hv _ h1).mul (hw _ h2)
  refine h.mono ?_
  rw [List.length_map, Nat.mul_comm 8]
  exact Nat.mul_le_mul_left _ (by rw [List.length_zip]; omega)
theorem cold_lat (h : OkL N M K m b) (hb : okB b) (hN' : N' ≠ 0) (hw : ∀ x ∈ b, lat N' M' x.2) (hV : lat N K V) : lat (N * N') (8 * ((33 * M + 2 * K) * M')) (coldP b V) ∧ lat (N * N') (8 * ((33 * M + 2 * K) * M')) (hotP b V) := by
  have hT := tot_lat h.n0 h.lt hb.1.2
  have s1 := stretch_lat (K := 8 * M + K) h.n0 h.lt hb.1.2 (B := 0) (E := V) (lat.zero.mono (by omega)) (hV.mono (by omega))
  have s2 := stretch_lat (K := 8 * M + K) h.n0 h.lt hb.1.2 (hT.sub h.n0 hV) (hT.mono (show 8 * M ≤ 8 * M + K by omega))
  have e : 2 * (8 * M + K) + 17 * M = 33 * M + 2 * K := by omega
  rw [e] at s1 s2
  exact ⟨mixH_lat h.n0 hN' hw s1 hb.1.2, mixH_lat h.n0 hN' hw s2 hb.1.2⟩
theorem posF_frD {q : Rat} : posF (frD q) = decide (0 < q) := by
  simp only [posF, frD]
  rw [Bool.eq_iff_iff]
  simp only [decide_eq_true_eq]
  have h1 := Rat.num_nonneg (q := q)
  have h2 : q.num = 0 ↔ q = 0 := Rat.num_eq_zero
  constructor
  · intro h
    have a : 0 ≤ q := h1.mp (by omega)
    have b : q ≠ 0 := fun z => by have := h2.mpr z; omega
    grind
  · intro h
    have a := h1.mpr (show 0 ≤ q by grind)
    have b : q.num ≠ 0 := fun z => by have := h2.mp z; grind
    omega
theorem span_ok (h : OkL N M K m b) (hb : okB b) (hV : lat N K V) (h0 : 0 < V) (h1 : V ≤ tot b) (hv : szR 200 V) {n : Nat} (z1 : szR n (coldP b V)) (z2 : szR n (hotP b V)) (hn : n ≤ 4000) (hn2 : 200 ≤ n) (p : Pool) : MC.m_span [bdD b, frD V] p = .ok (mxD (coldP b V / V, hotP b V / V)) p := by
  have t := totalof_ok h.sz hb.1.2 (by have := h.m1; omega) p
  have l := lessc_ok (h.szT hb.1.2) (h.szV hV) (by decide) p
  have hs := heatsat_ok h hb hV p
  have cb := checkB_ok hb h.sz200 p
  have ab := MW.above_ok (fair_frD hv) p
  rw [isF_frD, posF_frD, decide_eq_true h0, Bool.and_true] at ab
  have ab' : MW.m_is_above_nought [frD V] p = .ok (.bl true) p := ab
  have hne : V ≠ 0 := by grind
  have o1 := overc_ok z1 (hv.mono hn2) hn hne p
  have o2 := overc_ok z2 (hv.mono hn2) hn hne p
  have hlt : ¬ tot b < V := by grind
  simp only [mxD] at hs ⊢
  generalize coldP b V = C at *
  generalize hotP b V = H at *
  generalize bdD b = BB at *
  simp [MC.m_span, MC.b_span, MC.m_check_volume, MC.b_check_volume, MC.m_span_by, MC.b_span_by, runB_ap, cb, ab', t, l, hlt, hs, o1, o2, tupO_of]
end
end MC

end
section
namespace DL
open PySem PySem.Spec L2
/-! ### a if c else b, as a test -/
def tIteT (tc ta tb : TT) : TT := fun σ H Q => tc σ H fun d H1 => if d = true then ta σ H1 Q else tb σ H1 Q
theorem pt_ifExp {X : Cx} {c a b : Expr} {pos : Pos} {tc ta tb : TT} (hc : PT X c tc) (ha : PT X a ta) (hb : PT X b tb) : PT X (.IfExp c a b pos) (tIteT tc ta tb) := by
  refine ⟨fun pins s σ H Q I h => ?_⟩
  show wpAny _ _ (do if ← isTrue c X.env (eval c X.env) then isTrue a X.env (eval a X.env) else isTrue b X.env (eval b X.env)) _ _ _
  refine wpAny_bind (thn (hc.run pins s σ H _ I h) fun d s1 ⟨H1, I1, q1⟩ => ?_)
  cases d with
  | true => exact ha.run pins s1 σ H1 Q I1 q1
  | false => exact hb.run pins s1 σ H1 Q I1 q1
def dIteT (fb ga gb : DEnv → M Bool) (ε : DEnv) : M Bool := fb ε >>= fun c => if c then ga ε else gb ε
theorem pdt_ite {X : Cx} {W : WX} {own : List Nat} {c a b : Expr} {pos : Pos} {fb ga gb : DEnv → M Bool} (hc : PDT X W own c fb) (ha : PDT X W own a ga) (hb : PDT X W own b gb) : PDT X W own (.IfExp c a b pos) (dIteT fb ga gb) := (pt_ifExp hc ha hb).imp fun σ H Q ⟨P, ε, p, rel, q⟩ => by
  refine tDT.seq (k := fun b ε => if b then ga ε else gb ε) rel q fun x H1 p1 k1 r1 q1 => ?_
  cases x with
  | true => rw [if_pos rfl]; exact ⟨P, ε, p1, r1, q1.mono (fun _ _ z => z.shift k1) fun _ _ _ z => z⟩
  | false => rw [if_neg (by decide)]; exact ⟨P, ε, p1, r1, q1.mono (fun _ _ z => z.shift k1) fun _ _ _ z => z⟩
@[simp] theorem dIteT_ap (fb ga gb : DEnv → M Bool) (ε : DEnv) (p : Pool) : dIteT fb ga gb ε p = (fb ε p).thn fun c p => if c then ga ε p else gb ε p := by
  show (fb ε p).thn (fun c p' => (if c then ga ε else gb ε) p') = _
  congr; funext c p'; cases c <;> rfl
end DL

end
section
namespace MC3
open PySem PySem.Spec L2 DL
def c__law_sorted_1 : DEnv → M Bool :=
  (dIteT (dB (dVar 1)) (dB (dCall 2 MW.m__law_below (dCons (d2 ixD (dVar 3) (dC (.int 1))) (dCons (d2 ixD (dVar 5) (dC (.int 1))) dNil)))) (dB (dCall 2 MW.m__law_below (dCons (d2 ixD (dVar 5) (dC (.int 1))) (dCons (d2 ixD (dVar 3) (dC (.int 1))) dNil)))))
def e__law_sorted_2 : DEnv → M D :=
  (dVar 5)
def l__law_sorted_3 : DEnv → M Fl :=
  (sSeq (sSet false 4 (dA lenD (dCons (dLc (iSeq (dVar 2)) [5] (pN false 5) c__law_sorted_1 e__law_sorted_2) dNil))) (sSet false 2 (d2 addD (d2 addD (dSl (dVar 2) oNone (oSome (dVar 4))) (dA lstO (dCons (dVar 3) dNil))) (dSl (dVar 2) (oSome (dVar 4)) oNone))))
def b__law_sorted : DEnv → M Fl :=
  (sSeq (sSet false 2 (dA lstO dNil)) (sSeq (sFor (iSeq (dVar 0)) (pN false 3) [3, 4] l__law_sorted_3) (sRet (dVar 2))))
def m__law_sorted : List D → M D := runB b__law_sorted 6
def l__law_heat_1 : DEnv → M Fl :=
  (sSeq (sSet false 7 (dIte (dB (dCall 2 MW.m__law_below (dCons (dVar 3) (dCons (dVar 5) dNil)))) (dVar 3) (dVar 5))) (sPar false 3 4 (dCons (dCall 2 MW.m__law_minus (dCons (dVar 3) (dCons (dVar 7) dNil))) (dCons (dCall 2 MW.m__law_plus (dCons (dVar 4) (dCons (dCall 2 MW.m__law_times (dCons (dVar 7) (dCons (dVar 6) dNil))) dNil))) dNil))))
def b__law_heat : DEnv → M Fl :=
  (sSeq (sPar false 3 4 (dCons (dVar 1) (dCons (dA tupO (dCons (dC (.int 0)) (dCons (dC (.int 1)) dNil))) dNil))) (sSeq (sFor (iSeq (dCall 2 MC3.m__law_sorted (dCons (dVar 0) (dCons (dVar 2) dNil)))) (pT [(pN false 5), (pN false 6)]) [5, 6, 7] l__law_heat_1) (sRet (dVar 4))))
def m__law_heat : List D → M D := runB b__law_heat 8
def b__law_gives : DEnv → M Fl :=
  (sSeq (sIf (dB (dCall 2 MW.m__law_below (dCons (dCall 1 MC.m__law_total (dCons (dVar 0) dNil)) (dCons (d2 ixD (dVar 1) (dC (.int 0))) dNil)))) (sRet (dC (.bl false))) sNil) (sRet (dAndV (dNotV (dCall 2 MW.m__law_below (dCons (d2 ixD (dVar 1) (dC (.int 1))) (dCons (dCall 3 MC3.m__law_heat (dCons (dVar 0) (dCons (d2 ixD (dVar 1) (dC (.int 0))) (dCons (dC (.bl false)) dNil)))) dNil)))) (dNotV (dCall 2 MW.m__law_below (dCons (dCall 3 MC3.m__law_heat (dCons (dVar 0) (dCons (d2 ixD (dVar 1) (dC (.int 0))) (dCons (dC (.bl true)) dNil)))) (dCons (d2 ixD (dVar 1) (dC (.int 1))) dNil)))))))
def m__law_gives : List D → M D := runB b__law_gives 2
end MC3

end
section
namespace MC
open PySem PySem.Spec L2 DL MW
/-! ### the law's own sorting -/
def key (s : Bool) (x : Rat × Rat) : Rat := if s = true then -x.2 else x.2
section
variable (s : Bool)
def cntT (x : Rat × Rat) (L : Bd) : Nat := (L.filter fun y => decide (key s y < key s x)).length
def insT (L : Bd) (x : Rat × Rat) : Bd := L.take (cntT s x L) ++ [x] ++ L.drop (cntT s x L)
def srtK (L : Bd) : Prop := L.Pairwise fun x y => key s x ≤ key s y
def srtT (b : Bd) : Bd := b.foldl (insT s) []
variable {s}
theorem cntT_split {x : Rat × Rat} : ∀ {L : Bd}, srtK s L → (∀ y ∈ L.take (cntT s x L), key s y < key s x) ∧ ∀ y ∈ L.drop (cntT s x L), key s x ≤ key s y
  | [], _ => ⟨fun _ h => by simp at h, fun _ h => by simp at h⟩
  | k :: L, h => by
    obtain ⟨h1, h2⟩ := List.pairwise_cons.mp h
    obtain ⟨i1, i2⟩ := cntT_split (x := x) h2
    by_cases c : key s k < key s x
    · have e : cntT s x (k :: L) = cntT s x L + 1 := by
        unfold cntT
        rw [List.filter_cons_of_pos (by simp [c]), List.length_cons]
      rw [e, List.take_succ_cons, List.drop_succ_cons]
      refine ⟨fun j hj => ?_, i2⟩
      rcases List.mem_cons.mp hj with rfl | hj
      · exact c
      · exact i1 j hj
    · have e : cntT s x (k :: L) = 0 := by
        unfold cntT
        rw [List.length_eq_zero_iff, List.filter_eq_nil_iff]
        intro j hj
        rcases List.mem_cons.mp hj with rfl | hj
        · simp [c]
        · have := h1 j hj
          have : ¬ key s j < key s x := by grind
          simp [this]
      rw [e]
      refine ⟨fun j hj => by simp at hj, fun j hj => ?_⟩
      rw [List.drop_zero] at hj
      rcases List.mem_cons.mp hj with rfl | hj
      · grind
      · have := h1 j hj
        grind
theorem insT_srt {L : Bd} {x : Rat × Rat} (h : srtK s L) : srtK s (insT s L x) := by
  obtain ⟨h1, h2⟩ := cntT_split (x := x) h
  unfold insT srtK
  rw [List.append_assoc, List.pairwise_append, List.pairwise_append]
  refine ⟨List.Pairwise.sublist (List.take_sublist _ _) h, ⟨List.pairwise_singleton _ _, List.Pairwise.sublist (List.drop_sublist _ _) h, fun a ha b hb => ?_⟩, fun a ha b hb => ?_⟩
  · rw [List.mem_singleton] at ha
    subst ha
    exact h2 b hb
  · have a1 := h1 a ha
    rcases List.mem_append.mp hb with hb | hb
    · rw [List.mem_singleton] at hb
      subst hb
      grind
    · have := h2 b hb
      grind
theorem insT_perm {L : Bd} {x : Rat × Rat} : (insT s L x).Perm (x :: L) := by
  unfold insT
  rw [List.append_assoc, List.singleton_append]
  refine List.perm_middle.trans ?_
  rw [List.take_append_drop]
theorem foldT_perm : ∀ (xs L : Bd), (xs.foldl (insT s) L).Perm (L ++ xs)
  | [], L => by simp
  | x :: xs, L => by
    rw [List.foldl_cons]
    refine (foldT_perm xs _).trans ?_
    refine (List.Perm.append_right xs insT_perm).trans ?_
    rw [List.cons_append]
    exact List.perm_middle.symm
theorem foldT_srt : ∀ (xs L : Bd), srtK s L → srtK s (xs.foldl (insT s) L)
  | [], L, h => h
  | x :: xs, L, h => foldT_srt xs _ (insT_srt h)
theorem srtT_perm (s : Bool) (b : Bd) : (srtT s b).Perm b := foldT_perm b []
theorem srtT_srt (s : Bool) (b : Bd) : srtK s (srtT s b) := foldT_srt b [] List.Pairwise.nil
end
/-! ### taking in order -/
def tk : Rat → Bd → Rat
  | _, [] => 0
  | V, x :: r => (if V < x.1 then V else x.1) * x.2 + tk (V - if V < x.1 then V else x.1) r
theorem tot_nn {T : Bd} (h : ∀ x ∈ T, 0 < x.1) : 0 ≤ tot T := by
  unfold tot
  induction T with
  | nil => simp
  | cons x T ih =>
    rw [List.map_cons, sm_cons]
    have a := h x List.mem_cons_self
    have b := ih fun y hy => h y (List.mem_cons_of_mem _ hy)
    grind
theorem tk_zero : ∀ {T : Bd}, (∀ x ∈ T, 0 < x.1) → tk 0 T = 0
  | [], _ => rfl
  | x :: T, h => by
    have hx := h x List.mem_cons_self
    have ih := tk_zero fun y hy => h y (List.mem_cons_of_mem _ hy)
    unfold tk
    rw [if_pos hx, show (0 : Rat) - 0 = 0 by grind, ih]
    grind
theorem tot_cons (x : Rat × Rat) (T : Bd) : tot (x :: T) = x.1 + tot T := by unfold tot; rw [List.map_cons, sm_cons]
theorem exc_cons (x : Rat × Rat) (T : Bd) (w : Rat) : exc (x :: T) w = x.1 * ab (x.2 - w) + exc T w := by unfold exc; rw [List.map_cons, sm_cons]
theorem tk_le (w : Rat) : ∀ {T : Bd} {V : Rat}, (∀ x ∈ T, 0 < x.1) → 0 ≤ V → V ≤ tot T → tk V T ≤ w * V + exc T w
  | [], V, _, h0, h1 => by
    have h1 : V ≤ 0 := h1
    have : V = 0 := by grind
    subst this
    simp [tk, exc]
    grind
  | x :: T, V, h, h0, h1 => by
    have hx := h x List.mem_cons_self
    rw [tot_cons] at h1
    have ht := tot_nn fun y hy => h y (List.mem_cons_of_mem x hy)
    rw [exc_cons]
    unfold tk
    obtain ⟨q, hq⟩ : ∃ q, q = if V < x.1 then V else x.1 := ⟨_, rfl⟩
    rw [← hq]
    have q0 : 0 ≤ q := by rw [hq]; split <;> grind
    have q1 : q ≤ x.1 := by rw [hq]; split <;> grind
    have q2 : 0 ≤ V - q := by rw [hq]; split <;> grind
    have q3 : V - q ≤ tot T := by rw [hq]; split <;> grind
    have ih := tk_le w (T := T) (V := V - q) (fun y hy => h y (List.mem_cons_of_mem _ hy)) q2 q3
    have n := ab_nn (x.2 - w)
    have m : x.2 - w ≤ ab (x.2 - w) := by unfold ab; split <;> grind
    have e1 := mul_le_l q0 m
    have e2 : q * ab (x.2 - w) ≤ x.1 * ab (x.2 - w) := Rat.mul_le_mul_of_nonneg_right q1 n
    grind
theorem tk_eq : ∀ {T : Bd} {V : Rat}, T ≠ [] → (∀ x ∈ T, 0 < x.1) → T.Pairwise (fun x y => y.2 ≤ x.2) → 0 ≤ V → V ≤ tot T → ∃ u, (∃ z ∈ T, u = z.2) ∧ tk V T = u * V + exc T u
  | [], _, h, _, _, _, _ => (h rfl).elim
  | x :: T, V, _, h, hs, h0, h1 => by
    have hx := h x List.mem_cons_self
    have hT := fun y hy => h y (List.mem_cons_of_mem x hy)
    obtain ⟨s1, s2⟩ := List.pairwise_cons.mp hs
    rw [tot_cons] at h1
    by_cases c : V ≤ x.1
    · refine ⟨x.2, ⟨x, List.mem_cons_self, rfl⟩, ?_⟩
      rw [exc_cons, ab_le (show x.2 - x.2 ≤ 0 by grind), exc_zero s1]
      unfold tk
      have e : (if V < x.1 then V else x.1) = V := by split <;> grind
      rw [e, show V - V = 0 by grind, tk_zero hT]
      grind
    · have hne : T ≠ [] := by
        rintro rfl
        have : tot [] = 0 := rfl
        rw [this] at h1
        grind
      obtain ⟨u, ⟨z, hz, hu⟩, ih⟩ := tk_eq (T := T) (V := V - x.1) hne hT s2 (by grind) (by grind)
      refine ⟨u, ⟨z, List.mem_cons_of_mem _ hz, hu⟩, ?_⟩
      rw [exc_cons]
      unfold tk
      rw [if_neg (by grind), ih]
      have := s1 z hz
      have e : ab (x.2 - u) = x.2 - u := by unfold ab; split <;> grind
      rw [e]
      grind
def negB (b : Bd) : Bd := b.map fun x => (x.1, -x.2)
theorem tk_neg : ∀ (T : Bd) (V : Rat), tk V (negB T) = -tk V T
  | [], _ => by simp [negB, tk]
  | x :: T, V => by
    have ih := tk_neg T (V - if V < x.1 then V else x.1)
    unfold negB at ih ⊢
    rw [List.map_cons]
    unfold tk
    rw [ih]
    grind
theorem exc_neg (T : Bd) (w : Rat) : exc (negB T) w = lck T (-w) := by
  unfold exc lck negB
  rw [List.map_map]
  refine sm_congr fun x _ => ?_
  show x.1 * ab (-x.2 - w) = x.1 * ab (-w - x.2)
  congr 2
  grind
theorem tot_neg (T : Bd) : tot (negB T) = tot T := by
  unfold tot negB
  rw [List.map_map]
  rfl
section
variable {b : Bd} {V : Rat}
theorem tk_hot (hb : okB b) (h0 : 0 ≤ V) (h1 : V ≤ tot b) : tk V (srtT true b) = hotP b V := by
  have hp := srtT_perm true b
  have ht : tot (srtT true b) = tot b := by rw [tot_wsum, tot_wsum, wsum_perm _ hp]
  have he : ∀ w, exc (srtT true b) w = exc b w := fun w => by rw [exc_wsum, exc_wsum, wsum_perm _ hp]
  have hpos : ∀ x ∈ srtT true b, 0 < x.1 := fun x hx => hb.2 x (hp.mem_iff.mp hx)
  have hne : srtT true b ≠ [] := fun z => by have h := hp.length_eq; rw [z, List.length_nil] at h; have := hb.1.1; omega
  have hs : (srtT true b).Pairwise fun x y => y.2 ≤ x.2 := (srtT_srt true b).imp fun {x y} h => by have h : -x.2 ≤ -y.2 := h; grind
  obtain ⟨u, _, hu⟩ := tk_eq hne hpos hs h0 (by rw [ht]; exact h1)
  have H : IsHot (srtT true b) V (tk V (srtT true b)) := ⟨fun w => tk_le w hpos h0 (by rw [ht]; exact h1), u, hu⟩
  exact H.uniq he (hot_is hb h0 h1)
theorem tk_cold (hb : okB b) (h0 : 0 ≤ V) (h1 : V ≤ tot b) : tk V (srtT false b) = coldP b V := by
  have hp := srtT_perm false b
  have ht : tot (srtT false b) = tot b := by rw [tot_wsum, tot_wsum, wsum_perm _ hp]
  have he : ∀ w, lck (srtT false b) w = lck b w := fun w => by rw [lck_wsum, lck_wsum, wsum_perm _ hp]
  have hpos : ∀ x ∈ negB (srtT false b), 0 < x.1 := fun x hx => by
    obtain ⟨y, hy, rfl⟩ := List.mem_map.mp hx
    exact hb.2 y (hp.mem_iff.mp hy)
  have hne : negB (srtT false b) ≠ [] := fun z => by
    have := hp.length_eq
    unfold negB at z
    rw [List.map_eq_nil_iff] at z
    rw [z, List.length_nil] at this; have := hb.1.1; omega
  have hs : (negB (srtT false b)).Pairwise fun x y => y.2 ≤ x.2 := by
    unfold negB
    rw [List.pairwise_map]
    exact (srtT_srt false b).imp fun {x y} h => by have h : x.2 ≤ y.2 := h; show -y.2 ≤ -x.2; grind
  obtain ⟨u, _, hu⟩ := tk_eq hne hpos hs h0 (by rw [tot_neg, ht]; exact h1)
  rw [tk_neg, exc_neg] at hu
  have H : IsCold (srtT false b) V (tk V (srtT false b)) := by
    refine ⟨fun w => ?_, -u, by grind⟩
    have := tk_le (-w) hpos h0 (by rw [tot_neg, ht]; exact h1)
    rw [tk_neg, exc_neg, show - -w = w by grind] at this
    grind
  exact H.uniq he (cold_is hb h0 h1)
end
/-! ### their walk -/
section
variable {b : Bd} {N M K m : Nat} {V H : Rat}
theorem lsorted_ok (s : Bool) (hs : szB m b) (hl : b.length ≤ 8) (hm : m ≤ 4000) (p : Pool) : MC3.m__law_sorted [bdD b, .bl s] p = .ok (.lst ((srtT s b).map tapD)) p := by
  have l := loopF_foldR (t := pN false 3) (b := MC3.l__law_sorted_3) (ks := [3, 4]) (p := p) (fun L : Bd => [some (bdD b), some (.bl s), some (.lst (L.map tapD)), none, none, none]) tapD (insT s)
    (fun r L => (∀ y ∈ L, szR m y.2) ∧ (∀ x ∈ r, szR m x.2) ∧ L.length + r.length ≤ 8) b [] ⟨fun _ h => by simp at h, fun x hx => (hs x hx).2, by simpa using hl⟩ (fun x r L ⟨j1, j2, j3⟩ => by
    have hx := j2 x List.mem_cons_self
    rw [List.length_cons] at j3
    have hfl : cntT s x L ≤ L.length := List.length_filter_le _ _
    have hpm := insT_perm (s := s) (L := L) (x := x)
    refine ⟨⟨fun y hy => ?_, fun z hz => j2 z (List.mem_cons_of_mem _ hz), by rw [hpm.length_eq, List.length_cons]; omega⟩, ?_⟩
    · rcases List.mem_cons.mp (hpm.mem_iff.mp hy) with rfl | h
      · exact hx
      · exact j1 y h
    · have f := lcM_filT (t := pN false 5) (fb := MC3.c__law_sorted_1) (f := MC3.e__law_sorted_2) (p := p) (ε := [some (bdD b), some (.bl s), some (.lst (L.map tapD)), some (tapD x), none, none]) tapD (fun y => decide (key s y < key s x)) tapD L fun y hy => by
        have hy := j1 y hy
        have ix : ixD (tapD x) (.int 1) = some (frD x.2) := ixT1 _ _ _
        have iy : ixD (tapD y) (.int 1) = some (frD y.2) := ixT1 _ _ _
        refine ⟨_, rfl, ?_, fun _ => ?_⟩
        · have b1 := fun p => lbelow_ok hx hy hm p
          have b2 := fun p => lbelow_ok hy hx hm p
          generalize tapD x = X at *
          generalize tapD y = Y at *
          cases s with
          | true =>
            have e : decide (key true y < key true x) = decide (x.2 < y.2) := by
              unfold key
              rw [Bool.eq_iff_iff]
              simp only [if_true, decide_eq_true_eq]
              constructor <;> intro h <;> grind
            rw [e]
            simp [MC3.c__law_sorted_1, ix, iy, b1]
          | false =>
            have e : decide (key false y < key false x) = decide (y.2 < x.2) := rfl
            rw [e]
            simp [MC3.c__law_sorted_1, ix, iy, b2]
        · simp [MC3.e__law_sorted_2]
      have hll : L.length ≤ 10000 := by omega
      have c1 : cut (L.map tapD) none (some ((L.filter fun y => decide (key s y < key s x)).length : Nat)) = (L.take (cntT s x L)).map tapD := by rw [List.map_take]; exact cut_up _ _
      have c2 : cut (L.map tapD) (some ((L.filter fun y => decide (key s y < key s x)).length : Nat)) none = (L.drop (cntT s x L)).map tapD := by rw [List.map_drop]; exact cut_dn _ _
      have ad : ∀ u v : List D, u.length + v.length ≤ 10000 → addD (.lst u) (.lst v) = some (.lst (u ++ v)) := fun u v h => if_pos h
      have a1 := ad ((L.take (cntT s x L)).map tapD) [tapD x] (by rw [List.length_map, List.length_take, List.length_singleton]; omega)
      have a2 := ad ((L.take (cntT s x L)).map tapD ++ [tapD x]) ((L.drop (cntT s x L)).map tapD) (by rw [List.length_append, List.length_map, List.length_map, List.length_take, List.length_drop, List.length_singleton]; omega)
      have e3 : (insT s L x).map tapD = (L.take (cntT s x L)).map tapD ++ [tapD x] ++ (L.drop (cntT s x L)).map tapD := by unfold insT; rw [List.map_append, List.map_append]; rfl
      refine ⟨[some (bdD b), some (.bl s), some (.lst (L.map tapD)), some (tapD x), none, none], [some (bdD b), some (.bl s), some (.lst ((insT s L x).map tapD)), some (tapD x), some (.int ((L.filter fun y => decide (key s y < key s x)).length : Nat)), none], rfl, ?_, rfl⟩
      rw [e3]
      have sq : seqO (.lst (L.map tapD)) = some (L.map tapD) := rfl
      have lm : (L.map tapD).length ≤ 10000 := by rw [List.length_map]; exact hll
      have sl1 : slD none (some ((L.filter fun y => decide (key s y < key s x)).length : Nat)) (.lst (L.map tapD)) = some (.lst ((L.take (cntT s x L)).map tapD)) := by rw [← c1]; rfl
      have sl2 : slD (some ((L.filter fun y => decide (key s y < key s x)).length : Nat)) none (.lst (L.map tapD)) = some (.lst ((L.drop (cntT s x L)).map tapD)) := by rw [← c2]; rfl
      have ln : lenD [.lst ((L.filter fun y => decide (key s y < key s x)).map tapD)] = some (.int ((L.filter fun y => decide (key s y < key s x)).length : Nat)) := by
        have := lenD_l ((L.filter fun y => decide (key s y < key s x)).map tapD)
        rw [List.length_map] at this
        exact this
      generalize ((L.filter fun y => decide (key s y < key s x)).length : Nat) = cnt at *
      generalize (L.filter fun y => decide (key s y < key s x)).map tapD = FL at *
      generalize (L.take (cntT s x L)).map tapD = L1 at *
      generalize (L.drop (cntT s x L)).map tapD = L2 at *
      generalize L.map tapD = L0 at *
      generalize tapD x = X at *
      simp only [List.append_assoc, List.singleton_append] at a1 a2
      simp [MC3.l__law_sorted_3, sq, lm, f, ln, -lenD_l, sl1, sl2, a1, a2, lstO_of, -slD_l])
  have l1 := l.1
  have es : b.foldl (insT s) [] = srtT s b := rfl
  rw [es, List.map_nil] at l1
  have sq : seqO (bdD b) = some (b.map tapD) := rfl
  generalize (srtT s b).map tapD = R at *
  simp [MC3.m__law_sorted, MC3.b__law_sorted, runB_ap, lstO_of, sq, l1]
def heatS (s : Rat × Rat) (x : Rat × Rat) : Rat × Rat := (s.1 - (if s.1 < x.1 then s.1 else x.1), s.2 + (if s.1 < x.1 then s.1 else x.1) * x.2)
theorem heatS_fold : ∀ (T : Bd) (s : Rat × Rat), (T.foldl heatS s).2 = s.2 + tk s.1 T
  | [], s => by simp [tk, Rat.add_zero]
  | x :: T, s => by
    rw [List.foldl_cons, heatS_fold T]
    unfold heatS
    simp only
    conv => rhs; unfold tk
    grind
theorem lheat_ok (s : Bool) (h : OkL N M K m b) (hb : okB b) (hV : lat N K V) (p : Pool) : MC3.m__law_heat [bdD b, frD V, .bl s] p = .ok (frD (tk V (srtT s b))) p := by
  have hp := srtT_perm s b
  have hn : (srtT s b).length ≤ 8 := by rw [hp.length_eq]; exact hb.1.2
  have k1 := h.k1
  have m1 := h.m1
  have l := loopF_foldR (t := pT [pN false 5, pN false 6]) (b := MC3.l__law_heat_1) (ks := [5, 6, 7]) (p := p) (fun st : Rat × Rat => [some (bdD b), some (frD V), some (.bl s), some (frD st.1), some (frD st.2), none, none, none]) tapD heatS
    (fun r st => (∀ x ∈ r, lat N M x.1 ∧ szR m x.2) ∧ (∃ k, lat N (K + M * k) st.1 ∧ k + r.length ≤ 8) ∧ ∃ n, szR n st.2 ∧ 1 ≤ n ∧ n + (301 + m) * r.length ≤ 3993) (srtT s b) (V, 0)
    ⟨fun x hx => ⟨h.lt x (hp.mem_iff.mp hx), (h.sz x (hp.mem_iff.mp hx)).2⟩, ⟨0, hV.mono (by omega), by omega⟩, 1, szR_zero, by omega, by
      have := Nat.mul_le_mul_left (301 + m) hn
      omega⟩ (fun x r st ⟨j1, ⟨k, j2, j3⟩, n, j4, j5, j6⟩ => by
    obtain ⟨lf, sw⟩ := j1 x List.mem_cons_self
    rw [List.length_cons] at j3
    rw [List.length_cons, Nat.mul_add] at j6
    have hk : M * k ≤ M * 8 := Nat.mul_le_mul_left _ (by omega)
    have zf := lf.szR h.n0 h.n1 (show M < 2 ^ 300 by omega)
    have zl := j2.szR h.n0 h.n1 (show K + M * k < 2 ^ 300 by omega)
    have lq : lat N (K + M * k) (if st.1 < x.1 then st.1 else x.1) ∨ lat N M (if st.1 < x.1 then st.1 else x.1) := by
      split
      · exact .inl j2
      · exact .inr lf
    have zq : szR 300 (if st.1 < x.1 then st.1 else x.1) := by split <;> assumption
    have lst : lat N (K + M * (k + 1)) (st.1 - if st.1 < x.1 then st.1 else x.1) := by
      split
      · have e : st.1 - st.1 = 0 := by grind
        rw [e]
        exact lat.zero.mono (Nat.zero_le _)
      · exact (j2.sub h.n0 lf).mono (by rw [Nat.mul_add]; omega)
    refine ⟨⟨fun y hy => j1 y (List.mem_cons_of_mem _ hy), ⟨k + 1, lst, by omega⟩, n + (300 + m) + 1, szR_add j4 (szR_mul zq sw), by omega, by omega⟩, ?_⟩
    have f1 := fun p => lbelow_ok zl zf (by decide) p
    have f2 := fun p => lminus_ok zl zq (by decide) p
    have f3 := fun p => ltimes_ok (n := 300 + m) (zq.mono (by omega)) (sw.mono (by omega)) (by omega) p
    have f4 := fun p => lplus_ok (n := 3993) (j4.mono (by omega)) ((szR_mul zq sw).mono (by omega)) (by decide) p
    unfold heatS
    simp only
    have part : ∀ ε : DEnv, ε = [some (bdD b), some (frD V), some (.bl s), some (frD st.1), some (frD st.2), some (frD x.1), some (frD x.2), none] → dIte (dB (dCall 2 MW.m__law_below (dCons (dVar 3) (dCons (dVar 5) dNil)))) (dVar 3) (dVar 5) ε p = .ok (frD (if st.1 < x.1 then st.1 else x.1)) p := by
      rintro ε rfl
      by_cases c : st.1 < x.1
      · simp [f1, c]
      · simp [f1, c]
    have part := part _ rfl
    generalize (if st.1 < x.1 then st.1 else x.1) = q at *
    refine ⟨[some (bdD b), some (frD V), some (.bl s), some (frD st.1), some (frD st.2), some (frD x.1), some (frD x.2), none], [some (bdD b), some (frD V), some (.bl s), some (frD (st.1 - q)), some (frD (st.2 + q * x.2)), some (frD x.1), some (frD x.2), some (frD q)], rfl, ?_, rfl⟩
    unfold MC3.l__law_heat_1
    rw [sSeq_ap, sSet_ap, part, ok_sx]
    simp [f2, f3, f4])
  have l1 := l.1
  have es : ((srtT s b).foldl heatS (V, 0)).2 = tk V (srtT s b) := by rw [heatS_fold]; simp only; grind
  rw [es] at l1
  have so := lsorted_ok s h.sz hb.1.2 (by omega) p
  simp only [frD_zero] at l1
  generalize (srtT s b).map tapD = R at *
  generalize bdD b = BB at *
  simp [MC3.m__law_heat, MC3.b__law_heat, runB_ap, tupO_of, so, l1]
theorem szR_tk (s : Bool) (h : OkL N M K m b) (hb : okB b) (hV : lat N K V) (h0 : 0 ≤ V) (h1 : V ≤ tot b) : szR (1 + (301 + m) * 8) (tk V (srtT s b)) := by
  have z := szR_cold h hb hV
  cases s with
  | true => rw [tk_hot hb h0 h1]; exact z.2
  | false => rw [tk_cold hb h0 h1]; exact z.1
theorem lgives_ok (h : OkL N M K m b) (hb : okB b) (hV : lat N K V) (h0 : 0 ≤ V) {n : Nat} (hH : szR n H) (hn : n ≤ 4000) (p : Pool) : MC3.m__law_gives [bdD b, mxD (V, H)] p = .ok (.bl (gives b V H)) p := by
  have m1 := h.m1
  have t := ltotal_ok h.sz hb.1.2 (by omega) p
  have l := lbelow_ok (h.szT hb.1.2) (h.szV hV) (by decide) p
  have i0 : ixD (mxD (V, H)) (.int 0) = some (frD V) := ixT0 _ _
  have i1 : ixD (mxD (V, H)) (.int 1) = some (frD H) := ixT1 _ _ _
  by_cases c : tot b < V
  · have e : gives b V H = false := by
      unfold gives
      rw [decide_eq_false (by grind), Bool.false_and]
    rw [e]
    generalize mxD (V, H) = X at *
    simp [MC3.m__law_gives, MC3.b__law_gives, runB_ap, t, i0, i1, l, c]
  · have h1 : V ≤ tot b := by grind
    have hh := fun p => lheat_ok true h hb hV p
    have hc := fun p => lheat_ok false h hb hV p
    rw [tk_hot hb h0 h1] at hh
    rw [tk_cold hb h0 h1] at hc
    have z := szR_cold h hb hV
    have l1 := fun p => lbelow_ok (n := 4000) (hH.mono hn) (z.1.mono (by omega)) (by decide) p
    have l2 := fun p => lbelow_ok (n := 4000) (z.2.mono (by omega)) (hH.mono hn) (by decide) p
    have e : gives b V H = ((!decide (H < coldP b V)) && (!decide (hotP b V < H))) := by
      unfold gives
      rw [decide_eq_true h1, Bool.true_and, nlt, nlt]
    rw [e]
    generalize mxD (V, H) = X at *
    simp [MC3.m__law_gives, MC3.b__law_gives, runB_ap, t, i0, i1, l, c, hh, hc, l1, l2]
    by_cases c1 : H < coldP b V <;> simp [c1]
end
end MC

end
section
namespace MC
open PySem PySem.Spec L2 DL MW
/-! ### hot and cold, further -/
section
variable {b : Bd} {V : Rat}
theorem lck_nn (hb : ∀ x ∈ b, 0 < x.1) (w : Rat) : 0 ≤ lck b w := by
  unfold lck
  induction b with
  | nil => simp
  | cons x b ih =>
    rw [List.map_cons, sm_cons]
    have a := ih fun y hy => hb y (List.mem_cons_of_mem _ hy)
    have c := Rat.mul_nonneg (show 0 ≤ x.1 by have := hb x List.mem_cons_self; grind) (ab_nn (w - x.2))
    grind
theorem exc_nn (hb : ∀ x ∈ b, 0 < x.1) (w : Rat) : 0 ≤ exc b w := by
  unfold exc
  induction b with
  | nil => simp
  | cons x b ih =>
    rw [List.map_cons, sm_cons]
    have a := ih fun y hy => hb y (List.mem_cons_of_mem _ hy)
    have c := Rat.mul_nonneg (show 0 ≤ x.1 by have := hb x List.mem_cons_self; grind) (ab_nn (x.2 - w))
    grind
theorem low_ex (b : Bd) : ∃ w, ∀ x ∈ b, w ≤ x.2 := by
  induction b with
  | nil => exact ⟨0, fun _ h => by cases h⟩
  | cons x b ih =>
    obtain ⟨w, h⟩ := ih
    refine ⟨if w < x.2 then w else x.2, fun y hy => ?_⟩
    rcases List.mem_cons.mp hy with rfl | hy
    · split <;> grind
    · have := h y hy
      split <;> grind
theorem high_ex (b : Bd) : ∃ w, ∀ x ∈ b, x.2 ≤ w := by
  induction b with
  | nil => exact ⟨0, fun _ h => by cases h⟩
  | cons x b ih =>
    obtain ⟨w, h⟩ := ih
    refine ⟨if w < x.2 then x.2 else w, fun y hy => ?_⟩
    rcases List.mem_cons.mp hy with rfl | hy
    · split <;> grind
    · have := h y hy
      split <;> grind
theorem cold_zero (hb : okB b) : coldP b 0 = 0 := by
  obtain ⟨w, hw⟩ := low_ex b
  refine (cold_is hb (by grind) (tot_nn hb.2)).uniq (fun _ => rfl) ⟨fun v => ?_, w, ?_⟩
  · have := lck_nn hb.2 v
    grind
  · rw [lck_zero hw]; grind
theorem hot_zero (hb : okB b) : hotP b 0 = 0 := by
  obtain ⟨w, hw⟩ := high_ex b
  refine (hot_is hb (by grind) (tot_nn hb.2)).uniq (fun _ => rfl) ⟨fun v => ?_, w, ?_⟩
  · have := exc_nn hb.2 v
    grind
  · rw [exc_zero hw]; grind
theorem cold_rest (hb : okB b) (h0 : 0 ≤ V) (h1 : V ≤ tot b) : coldP b (tot b - V) = heat b - hotP b V := by
  obtain ⟨a, u, hu⟩ := hot_is hb h0 h1
  refine (cold_is hb (by grind) (by grind)).uniq (fun _ => rfl) ⟨fun w => ?_, u, ?_⟩
  · have e := exc_lck b w
    have := a w
    grind
  · have e := exc_lck b u
    grind
theorem hot_tot (hb : okB b) : hotP b (tot b) = heat b := by
  have h := cold_rest hb (V := tot b) (tot_nn hb.2) (by grind)
  rw [show tot b - tot b = 0 by grind, cold_zero hb] at h
  grind
theorem cold_tot (hb : okB b) : coldP b (tot b) = heat b := by
  have h := cold_rest hb (V := 0) (by grind) (tot_nn hb.2)
  rw [show tot b - 0 = tot b by grind, hot_zero hb] at h
  grind
theorem hot_mid (hb : okB b) {A B : Rat} (a0 : 0 ≤ A) (a1 : A ≤ tot b) (b0 : 0 ≤ B) (b1 : B ≤ tot b) : hotP b A + hotP b B ≤ hotP b ((A + B) * (1 / 2)) * 2 := by
  obtain ⟨_, u, hu⟩ := hot_is hb (V := (A + B) * (1 / 2)) (by grind) (by grind)
  have x := (hot_is hb a0 a1).1 u
  have y := (hot_is hb b0 b1).1 u
  rw [hu]
  grind
theorem cold_mid (hb : okB b) {A B : Rat} (a0 : 0 ≤ A) (a1 : A ≤ tot b) (b0 : 0 ≤ B) (b1 : B ≤ tot b) : coldP b ((A + B) * (1 / 2)) * 2 ≤ coldP b A + coldP b B := by
  obtain ⟨_, u, hu⟩ := cold_is hb (V := (A + B) * (1 / 2)) (by grind) (by grind)
  have x := (cold_is hb a0 a1).1 u
  have y := (cold_is hb b0 b1).1 u
  rw [hu]
  grind
theorem mem_tot (hb : ∀ x ∈ b, 0 < x.1) {x : Rat × Rat} (hx : x ∈ b) : x.1 ≤ tot b := by
  unfold tot
  induction b with
  | nil => cases hx
  | cons y b ih =>
    rw [List.map_cons, sm_cons]
    have h := fun z hz => hb z (List.mem_cons_of_mem y hz)
    have t : 0 ≤ tot b := tot_nn h
    unfold tot at t
    rcases List.mem_cons.mp hx with rfl | hx
    · grind
    · have := ih h hx
      have := hb y List.mem_cons_self
      grind
theorem tot_pos (hb : okB b) : 0 < tot b := by
  cases b with
  | nil => have := hb.1.1; simp at this
  | cons x b =>
    have := mem_tot hb.2 (List.mem_cons_self (a := x) (l := b))
    have := hb.2 x List.mem_cons_self
    grind
theorem same_rev (b : Bd) : (∀ φ, wsum φ b.reverse = wsum φ b) := fun φ => wsum_perm φ (List.reverse_perm b)
theorem okB_rev (hb : okB b) : okB b.reverse := ⟨by rw [List.length_reverse]; exact hb.1, fun x hx => hb.2 x (List.mem_reverse.mp hx)⟩
theorem OkL_rev {N M K m : Nat} (h : OkL N M K m b) : OkL N M K m b.reverse := ⟨h.n0, h.n1, h.k1, h.m1, fun x hx => h.sz x (List.mem_reverse.mp hx), fun x hx => h.lt x (List.mem_reverse.mp hx)⟩
theorem rev_bd (b : Bd) : revD (bdD b) = some (bdD b.reverse) := by simp [bdD]
theorem hot_rev (hb : okB b) (h0 : 0 ≤ V) (h1 : V ≤ tot b) : hotP b.reverse V = hotP b V ∧ coldP b.reverse V = coldP b V ∧ V ≤ tot b.reverse := by
  obtain ⟨t, _, e, l⟩ := same_wsum (same_rev b)
  exact ⟨(hot_same hb (okB_rev hb) t.symm (fun w => (e w).symm) h0 h1).symm, (cold_same hb (okB_rev hb) t.symm (fun w => (l w).symm) h0 h1).symm, by rw [t]; exact h1⟩
end
theorem frD_two : frD 2 = .tup [.int 2, .int 1] := rfl
theorem szR_two : szR 2 2 := ⟨by decide, by decide⟩
end MC

end
section
namespace MC
open PySem PySem.Spec L2 DL MW
/-! ### what is given, told by excess and lack -/
section
variable {b c : Bd} {V H : Rat}
theorem gives_w (hb : okB b) (h0 : 0 ≤ V) : gives b V H = true ↔ V ≤ tot b ∧ ∀ w, w * V - lck b w ≤ H ∧ H ≤ w * V + exc b w := by
  rw [gives_iff]
  constructor
  · rintro ⟨h1, h2, h3⟩
    refine ⟨h1, fun w => ⟨?_, ?_⟩⟩
    · have := (cold_is hb h0 h1).1 w; grind
    · have := (hot_is hb h0 h1).1 w; grind
  · rintro ⟨h1, h2⟩
    obtain ⟨_, u, hu⟩ := hot_is hb h0 h1
    obtain ⟨_, v, hv⟩ := cold_is hb h0 h1
    exact ⟨h1, by rw [hv]; exact (h2 v).1, by rw [hu]; exact (h2 u).2⟩
theorem vol_le : ∀ {b : Bd} {v : List Rat}, okS b v → 0 ≤ sm v ∧ sm v ≤ tot b
  | [], [], _ => ⟨by simp, by simp [tot]⟩
  | x :: b, q :: v, h => by
    have h' : okS b v := ⟨by simpa using h.1, fun z hz => h.2 z (by rw [List.zip_cons_cons]; exact List.mem_cons_of_mem _ hz)⟩
    obtain ⟨i1, i2⟩ := vol_le h'
    obtain ⟨q0, q1⟩ := h.2 (q, x) (by rw [List.zip_cons_cons]; exact List.mem_cons_self)
    simp only at q0 q1
    rw [sm_cons, tot_cons]
    constructor <;> grind
  | [], _ :: _, h => by have := h.1; simp at this
  | _ :: _, [], h => by have := h.1; simp at this
theorem gives_set (hb : okB b) {v : List Rat} (hv : okS b v) : gives b (mixP b v).1 (mixP b v).2 = true := by
  obtain ⟨h0, h1⟩ := vol_le hv
  exact (gives_w hb h0).mpr ⟨h1, fun w => ⟨set_cold w hv, set_hot w hv⟩⟩
theorem gives_mid (hb : okB b) {V1 H1 V2 H2 t : Rat} (h1 : 0 ≤ V1) (h2 : 0 ≤ V2) (g1 : gives b V1 H1 = true) (g2 : gives b V2 H2 = true) (t0 : 0 ≤ t) (t1 : t ≤ 1) : gives b (V1 * t + V2 * (1 - t)) (H1 * t + H2 * (1 - t)) = true := by
  obtain ⟨a1, a2⟩ := (gives_w hb h1).mp g1
  obtain ⟨c1, c2⟩ := (gives_w hb h2).mp g2
  have s0 : 0 ≤ 1 - t := by grind
  have n1 := Rat.mul_nonneg h1 t0
  have n2 := Rat.mul_nonneg h2 s0
  refine (gives_w hb (by grind)).mpr ⟨?_, fun w => ?_⟩
  · have e1 := Rat.mul_le_mul_of_nonneg_right a1 t0
    have e2 := Rat.mul_le_mul_of_nonneg_right c1 s0
    grind
  · have e1 := Rat.mul_le_mul_of_nonneg_right (a2 w).1 t0
    have e2 := Rat.mul_le_mul_of_nonneg_right (a2 w).2 t0
    have e3 := Rat.mul_le_mul_of_nonneg_right (c2 w).1 s0
    have e4 := Rat.mul_le_mul_of_nonneg_right (c2 w).2 s0
    constructor <;> grind
theorem tot_app (b c : Bd) : tot (b ++ c) = tot b + tot c := by unfold tot; rw [List.map_append, sm_append]
theorem exc_app (b c : Bd) (w : Rat) : exc (b ++ c) w = exc b w + exc c w := by unfold exc; rw [List.map_append, sm_append]
theorem lck_app (b c : Bd) (w : Rat) : lck (b ++ c) w = lck b w + lck c w := by unfold lck; rw [List.map_append, sm_append]
theorem okB_app (hb : okB b) (hc : okB c) (hl : b.length + c.length ≤ 8) : okB (b ++ c) := by
  refine ⟨by rw [List.length_append]; have := hb.1.1; omega, fun x hx => ?_⟩
  rcases List.mem_append.mp hx with h | h
  · exact hb.2 x h
  · exact hc.2 x h
theorem gives_app (hb : okB b) (hc : okB c) (hl : b.length + c.length ≤ 8) {V2 H2 : Rat} (h0 : 0 ≤ V) (h2 : 0 ≤ V2) (g1 : gives b V H = true) (g2 : gives c V2 H2 = true) : gives (b ++ c) (V + V2) (H + H2) = true := by
  obtain ⟨a1, a2⟩ := (gives_w hb h0).mp g1
  obtain ⟨c1, c2⟩ := (gives_w hc h2).mp g2
  refine (gives_w (okB_app hb hc hl) (by grind)).mpr ⟨by rw [tot_app]; grind, fun w => ?_⟩
  have x := a2 w
  have y := c2 w
  rw [lck_app, exc_app]
  constructor <;> grind
theorem gives_more (hb : okB b) (hc : okB c) (hl : b.length + c.length ≤ 8) (h0 : 0 ≤ V) (g1 : gives b V H = true) : gives (b ++ c) V H = true := by
  obtain ⟨a1, a2⟩ := (gives_w hb h0).mp g1
  refine (gives_w (okB_app hb hc hl) h0).mpr ⟨by rw [tot_app]; have := tot_nn hc.2; grind, fun w => ?_⟩
  have x := a2 w
  have y := lck_nn hc.2 w
  have z := exc_nn hc.2 w
  rw [lck_app, exc_app]
  constructor <;> grind
def scB (k : Rat) (b : Bd) : Bd := b.map fun x => (x.1 * k, x.2)
def shB (k : Rat) (b : Bd) : Bd := b.map fun x => (x.1, x.2 + k)
theorem tot_sc (k : Rat) (b : Bd) : tot (scB k b) = tot b * k := by
  unfold tot scB
  rw [List.map_map, ← sm_scale]
  rfl
theorem exc_sc (k : Rat) (b : Bd) (w : Rat) : exc (scB k b) w = exc b w * k := by
  unfold exc scB
  rw [List.map_map, ← sm_scale]
  exact sm_congr fun x _ => by show x.1 * k * _ = _; grind
theorem lck_sc (k : Rat) (b : Bd) (w : Rat) : lck (scB k b) w = lck b w * k := by
  unfold lck scB
  rw [List.map_map, ← sm_scale]
  exact sm_congr fun x _ => by show x.1 * k * _ = _; grind
theorem okB_sc {k : Rat} (hk : 0 < k) (hb : okB b) : okB (scB k b) := by
  refine ⟨by rw [scB, List.length_map]; exact hb.1, fun x hx => ?_⟩
  obtain ⟨y, hy, rfl⟩ := List.mem_map.mp hx
  exact Rat.mul_pos (hb.2 y hy) hk
theorem gives_sc {k : Rat} (hk : 0 < k) (hb : okB b) (h0 : 0 ≤ V) : gives (scB k b) (V * k) (H * k) = gives b V H := by
  have hk0 : 0 ≤ k := by grind
  rw [Bool.eq_iff_iff, gives_w (okB_sc hk hb) (Rat.mul_nonneg h0 hk0), gives_w hb h0, tot_sc]
  have cancel : ∀ {a d : Rat}, a * k ≤ d * k → a ≤ d := fun {a d} h => Rat.le_of_mul_le_mul_right h hk
  constructor
  · rintro ⟨h1, h2⟩
    refine ⟨cancel h1, fun w => ?_⟩
    have := h2 w
    rw [exc_sc, lck_sc] at this
    exact ⟨cancel (by grind), cancel (by grind)⟩
  · rintro ⟨h1, h2⟩
    refine ⟨Rat.mul_le_mul_of_nonneg_right h1 hk0, fun w => ?_⟩
    rw [exc_sc, lck_sc]
    have e1 := Rat.mul_le_mul_of_nonneg_right (h2 w).1 hk0
    have e2 := Rat.mul_le_mul_of_nonneg_right (h2 w).2 hk0
    constructor <;> grind
theorem tot_sh (k : Rat) (b : Bd) : tot (shB k b) = tot b := by
  unfold tot shB
  rw [List.map_map]
  rfl
theorem exc_sh (k : Rat) (b : Bd) (w : Rat) : exc (shB k b) w = exc b (w - k) := by
  unfold exc shB
  rw [List.map_map]
  exact sm_congr fun x _ => by show x.1 * ab (x.2 + k - w) = x.1 * ab (x.2 - (w - k)); congr 2; grind
theorem lck_sh (k : Rat) (b : Bd) (w : Rat) : lck (shB k b) w = lck b (w - k) := by
  unfold lck shB
  rw [List.map_map]
  exact sm_congr fun x _ => by show x.1 * ab (w - (x.2 + k)) = x.1 * ab (w - k - x.2); congr 2; grind
theorem okB_sh {k : Rat} (hb : okB b) : okB (shB k b) := by
  refine ⟨by rw [shB, List.length_map]; exact hb.1, fun x hx => ?_⟩
  obtain ⟨y, hy, rfl⟩ := List.mem_map.mp hx
  exact hb.2 y hy
theorem gives_sh {k : Rat} (hb : okB b) (h0 : 0 ≤ V) : gives (shB k b) V (H + V * k) = gives b V H := by
  rw [Bool.eq_iff_iff, gives_w (okB_sh hb) h0, gives_w hb h0, tot_sh]
  constructor
  · rintro ⟨h1, h2⟩
    refine ⟨h1, fun w => ?_⟩
    have := h2 (w + k)
    rw [exc_sh, lck_sh, show w + k - k = w by grind] at this
    constructor <;> grind
  · rintro ⟨h1, h2⟩
    refine ⟨h1, fun w => ?_⟩
    have := h2 (w - k)
    rw [exc_sh, lck_sh]
    constructor <;> grind
theorem lck_neg (T : Bd) (w : Rat) : lck (negB T) w = exc T (-w) := by
  unfold exc lck negB
  rw [List.map_map]
  refine sm_congr fun x _ => ?_
  show x.1 * ab (w - -x.2) = x.1 * ab (x.2 - -w)
  congr 2
  grind
theorem okB_neg (hb : okB b) : okB (negB b) := by
  refine ⟨by rw [negB, List.length_map]; exact hb.1, fun x hx => ?_⟩
  obtain ⟨y, hy, rfl⟩ := List.mem_map.mp hx
  exact hb.2 y hy
theorem hot_neg (hb : okB b) (h0 : 0 ≤ V) (h1 : V ≤ tot b) : hotP (negB b) V = -coldP b V ∧ coldP (negB b) V = -hotP b V := by
  obtain ⟨a, u, hu⟩ := cold_is hb h0 h1
  obtain ⟨d, v, hv⟩ := hot_is hb h0 h1
  have t : V ≤ tot (negB b) := by rw [tot_neg]; exact h1
  constructor
  · refine (hot_is (okB_neg hb) h0 t).uniq (fun _ => rfl) ⟨fun w => ?_, -u, ?_⟩
    · have := a (-w)
      rw [exc_neg]
      grind
    · rw [exc_neg, show - -u = u by grind, hu]
      grind
  · refine (cold_is (okB_neg hb) h0 t).uniq (fun _ => rfl) ⟨fun w => ?_, -v, ?_⟩
    · have := d (-w)
      rw [lck_neg]
      grind
    · rw [lck_neg, show - -v = v by grind, hv]
      grind
end
end MC

end
section
namespace DL
open PySem PySem.Spec L2
/-- a comprehension whose test draws: nothing is kept -/
theorem lcM_noneC {A : Type} {t : Pat} {fb : DEnv → M Bool} {f : DEnv → M D} {ε : DEnv} (g : A → D) (I : Pool → Prop) : ∀ (xs : List A), (∀ x ∈ xs, ∀ p, I p → ∃ ε1 p', t (g x) ε = some ε1 ∧ fb ε1 p = .ok false p' ∧ I p') → ∀ p, I p → ∃ p', lcM t fb f (xs.map g) ε p = .ok [] p' ∧ I p'
  | [], _, p, hp => ⟨p, rfl, hp⟩
  | x :: xs, H, p, hp => by
    obtain ⟨ε1, p', h1, h2, h3⟩ := H x List.mem_cons_self p hp
    obtain ⟨p'', h4, h5⟩ := lcM_noneC g I xs (fun d hd => H d (List.mem_cons_of_mem _ hd)) p' h3
    refine ⟨p'', ?_, h5⟩
    rw [List.map_cons, lcM_cons, h1, ofO_some, ok_thn, h2, ok_thn, if_neg (by decide), h4]
end DL
namespace MC
open PySem PySem.Spec L2 DL MW
section
variable {b : Bd} {V H : Rat}
/-- the pivots are warmths of taps -/
theorem hot_at (hb : okB b) (h0 : 0 ≤ V) (h1 : V ≤ tot b) : ∃ x ∈ b, hotP b V = x.2 * V + exc b x.2 := by
  have hp := srtT_perm true b
  have ht : tot (srtT true b) = tot b := by rw [tot_wsum, tot_wsum, wsum_perm _ hp]
  have he : ∀ w, exc (srtT true b) w = exc b w := fun w => by rw [exc_wsum, exc_wsum, wsum_perm _ hp]
  have hpos : ∀ x ∈ srtT true b, 0 < x.1 := fun x hx => hb.2 x (hp.mem_iff.mp hx)
  have hne : srtT true b ≠ [] := fun z => by have h := hp.length_eq; rw [z, List.length_nil] at h; have := hb.1.1; omega
  have hs : (srtT true b).Pairwise fun x y => y.2 ≤ x.2 := (srtT_srt true b).imp fun {x y} h => by have h : -x.2 ≤ -y.2 := h; grind
  obtain ⟨u, ⟨z, hz, rfl⟩, hu⟩ := tk_eq hne hpos hs h0 (by rw [ht]; exact h1)
  refine ⟨z, hp.mem_iff.mp hz, ?_⟩
  rw [← tk_hot hb h0 h1, hu, he]
theorem cold_at (hb : okB b) (h0 : 0 ≤ V) (h1 : V ≤ tot b) : ∃ x ∈ b, coldP b V = x.2 * V - lck b x.2 := by
  obtain ⟨x, hx, h⟩ := hot_at (okB_neg hb) h0 (by rw [tot_neg]; exact h1)
  obtain ⟨y, hy, rfl⟩ := List.mem_map.mp hx
  refine ⟨y, hy, ?_⟩
  rw [(hot_neg hb h0 h1).1, exc_neg] at h
  simp only at h
  rw [show - -y.2 = y.2 by grind] at h
  grind
/-! ### bars -/
inductive Bar where
  | vol | abv (w : Rat) | blw (w : Rat)
  deriving DecidableEq
def barD : Bar → D
  | .vol => .tup [.str "volume"]
  | .abv w => .tup [.str "above", frD w]
  | .blw w => .tup [.str "below", frD w]
def barsV (b : Bd) (V H : Rat) : Bar → Bool
  | .vol => decide (tot b < V)
  | .abv w => decide (exc b w < H - w * V)
  | .blw w => decide (lck b w < 0 - (H - w * V))
theorem gives_bars (hb : okB b) (h0 : 0 ≤ V) : gives b V H = true ↔ barsV b V H .vol = false ∧ ∀ x ∈ b, barsV b V H (.abv x.2) = false ∧ barsV b V H (.blw x.2) = false := by
  unfold barsV
  simp only [decide_eq_false_iff_not]
  constructor
  · intro h
    obtain ⟨h1, h2⟩ := (gives_w hb h0).mp h
    refine ⟨by grind, fun x _ => ?_⟩
    have := h2 x.2
    constructor <;> grind
  · rintro ⟨h1, h2⟩
    have h1 : V ≤ tot b := by grind
    obtain ⟨x, hx, ex⟩ := hot_at hb h0 h1
    obtain ⟨y, hy, ey⟩ := cold_at hb h0 h1
    refine (gives_iff _ _ _).mpr ⟨h1, ?_, ?_⟩
    · have := (h2 y hy).2; grind
    · have := (h2 x hx).1; grind
theorem bars_given (hb : okB b) (h0 : 0 ≤ V) (hg : gives b V H = true) (B : Bar) : barsV b V H B = false := by
  obtain ⟨h1, h2⟩ := (gives_w hb h0).mp hg
  cases B with
  | vol => unfold barsV; rw [decide_eq_false_iff_not]; grind
  | abv w => unfold barsV; rw [decide_eq_false_iff_not]; have := h2 w; grind
  | blw w => unfold barsV; rw [decide_eq_false_iff_not]; have := h2 w; grind
/-- the law's bars, the program's bars -/
def barsL (b : Bd) : List Bar := [.vol] ++ b.map (fun x => .abv x.2) ++ b.map fun x => .blw x.2
def barsP (b : Bd) : List Bar := .vol :: (b.map fun x => [Bar.abv x.2, .blw x.2]).flatten
theorem barsP_mem (b : Bd) (B : Bar) : B ∈ barsP b ↔ B ∈ barsL b := by
  unfold barsP barsL
  simp only [List.mem_cons, List.mem_append, List.mem_flatten, List.mem_map, List.mem_singleton, List.not_mem_nil, or_false]
  constructor
  · rintro (h | ⟨l, ⟨x, hx, rfl⟩, h⟩)
    · exact .inl (.inl h)
    · simp only [List.mem_cons, List.not_mem_nil, or_false] at h
      rcases h with rfl | rfl
      · exact .inl (.inr ⟨x, hx, rfl⟩)
      · exact .inr ⟨x, hx, rfl⟩
  · rintro ((h | ⟨x, hx, rfl⟩) | ⟨x, hx, rfl⟩)
    · exact .inl h
    · exact .inr ⟨_, ⟨x, hx, rfl⟩, by simp⟩
    · exact .inr ⟨_, ⟨x, hx, rfl⟩, by simp⟩
theorem gives_barsL (hb : okB b) (h0 : 0 ≤ V) : gives b V H = decide ((barsL b).filter (barsV b V H) = []) := by
  rw [Bool.eq_iff_iff, decide_eq_true_eq, gives_bars hb h0, List.filter_eq_nil_iff]
  unfold barsL
  constructor
  · rintro ⟨h1, h2⟩ B hB
    simp only [List.mem_append, List.mem_map, List.mem_singleton] at hB
    rcases hB with (rfl | ⟨x, hx, rfl⟩) | ⟨x, hx, rfl⟩
    · rw [h1]; decide
    · rw [(h2 x hx).1]; decide
    · rw [(h2 x hx).2]; decide
  · intro h
    have f : ∀ B ∈ [Bar.vol] ++ b.map (fun x => .abv x.2) ++ b.map (fun x => .blw x.2), barsV b V H B = false := fun B hB => by simpa using h B hB
    exact ⟨f _ (by simp), fun x hx => ⟨f _ (by simp only [List.mem_append, List.mem_map]; exact .inl (.inr ⟨x, hx, rfl⟩)), f _ (by simp only [List.mem_append, List.mem_map]; exact .inr ⟨x, hx, rfl⟩)⟩⟩
theorem gives_barsP (hb : okB b) (h0 : 0 ≤ V) : gives b V H = decide ((barsP b).filter (barsV b V H) = []) := by
  rw [gives_barsL hb h0, Bool.eq_iff_iff, decide_eq_true_eq, decide_eq_true_eq, List.filter_eq_nil_iff, List.filter_eq_nil_iff]
  exact ⟨fun h B hB => h B ((barsP_mem b B).mp hB), fun h B hB => h B ((barsP_mem b B).mpr hB)⟩
theorem eqv_bar (B C : Bar) : eqv (barD B) (barD C) = decide (B = C) := by
  have s1 : ¬ (("above" : Str) = "below") := by decide
  have s2 : ¬ (("below" : Str) = "above") := by decide
  cases B <;> cases C <;> simp [barD, s1, s2]
theorem sh_bar (n : Nat) (B : Bar) : sh (n + 2) (barD B) = true := by
  cases B <;> simp [barD, frD]
theorem sh_bars (n : Nat) (l : List Bar) : (l.map barD).all (sh (n + 2)) = true := by
  rw [List.all_eq_true]
  intro d hd
  obtain ⟨B, _, rfl⟩ := List.mem_map.mp hd
  exact sh_bar n B
theorem free_bar (B : Bar) : (barD B).free = true := by
  cases B <;> simp [barD, free_frD]
theorem bars_ne (neg : Bool) (l : List Bar) : eqD neg (.lst (l.map barD)) (.lst []) = some (.bl (if neg then !decide (l = []) else decide (l = []))) := by
  have h : (sh 20 (.lst (l.map barD)) && sh 20 (.lst [])) = true := by
    have := sh_bars 17 l
    simp [this]
  rw [eqD_eq _ _ _ h]
  cases l <;> simp
end
end MC

end
section
namespace MC
open PySem PySem.Spec L2 DL MW
/-! ### the heat of a stretch by its beginning -/
def htB (b : Bd) (V B : Rat) : Rat := mixH b (stretchP b B (B + V))
theorem mixH_ends (b : Bd) (B E : Rat) : mixH b (stretchP b B E) = sm ((endsP b).map fun z => xst B E z.2 (fl b z.1) * wm b z.1) :=
  stretch_sum b B E fun q x => q * x.2
theorem ends_ge (g : Nat → Rat) : ∀ (P : List Nat) (e : Rat), (∀ i ∈ P, 0 ≤ g i) → ∀ z ∈ ends g e P, e ≤ z.2 ∧ z.1 ∈ P
  | [], _, _, z, hz => by rw [ends] at hz; cases hz
  | i :: r, e, h, z, hz => by
    rw [ends] at hz
    rcases List.mem_cons.mp hz with rfl | hz
    · exact ⟨by grind, List.mem_cons_self⟩
    · have this_1 := ends_ge g r (e + g i) (fun j hj => h j (List.mem_cons_of_mem _ hj)) z hz
      have := h i List.mem_cons_self
      exact ⟨by grind, List.mem_cons_of_mem _ (this_1.2)⟩
/-- each tap's water ends where another's begins, or where all ends -/
theorem ends_next (g : Nat → Rat) : ∀ (P : List Nat) (e : Rat), ∀ z ∈ ends g e P, z.2 + g z.1 = e + sm (P.map g) ∨ ∃ y ∈ ends g e P, y.2 = z.2 + g z.1
  | [], _, z, hz => by rw [ends] at hz; cases hz
  | i :: r, e, z, hz => by
    rw [ends] at hz ⊢
    rw [List.map_cons, sm_cons]
    rcases List.mem_cons.mp hz with rfl | hz
    · cases r with
      | nil => left; simp only [List.map_nil, sm_nil]; grind
      | cons j r => right; exact ⟨(j, e + g i), by rw [ends]; exact List.mem_cons_of_mem _ List.mem_cons_self, rfl⟩
    · rcases ends_next g r (e + g i) z hz with h | ⟨y, hy, h⟩
      · left; grind
      · right; exact ⟨y, List.mem_cons_of_mem _ hy, h⟩
section
variable {b : Bd} {V : Rat}
theorem endsP_ge (hb : ∀ x ∈ b, 0 < x.1) {z : Nat × Rat} (hz : z ∈ endsP b) : 0 ≤ z.2 ∧ 0 < fl b z.1 := by
  have h := ends_ge (fl b) (riseP (wq b)) 0 (fun i hi => by have := fl_pos hb (riseW_lt hi); grind) z hz
  exact ⟨h.1, fl_pos hb (riseW_lt h.2)⟩
theorem endsP_next {z : Nat × Rat} (hz : z ∈ endsP b) : z.2 + fl b z.1 = tot b ∨ ∃ y ∈ endsP b, y.2 = z.2 + fl b z.1 := by
  have h := ends_next (fl b) (riseP (wq b)) 0 z hz
  rw [tot_rise, show (0 : Rat) + tot b = tot b by grind] at h
  exact h
theorem sm_sub {A : Type} (f g : A → Rat) (xs : List A) : sm (xs.map fun x => f x - g x) = sm (xs.map f) - sm (xs.map g) := by
  have h := sm_add f (fun x => g x * (-1)) xs
  rw [sm_scale] at h
  rw [show (fun x => f x - g x) = fun x => f x + g x * (-1) by funext x; grind, h]
  grind
theorem xst_diff {B E e f : Rat} (h0 : 0 ≤ B) (h1 : B ≤ E) (he : 0 ≤ e) (hf : 0 ≤ f) : xst B E e f = xst 0 E e f - xst 0 B e f := by
  unfold xst ab
  (repeat' split) <;> grind
theorem htB_cold (hb : okB b) (hV : 0 ≤ V) {B : Rat} (h0 : 0 ≤ B) : htB b V B = coldP b (B + V) - coldP b B := by
  unfold htB coldP
  rw [mixH_ends, mixH_ends, mixH_ends, ← sm_sub]
  refine sm_congr fun z hz => ?_
  obtain ⟨a, c⟩ := endsP_ge hb.2 hz
  rw [xst_diff h0 (by grind) a (by grind)]
  grind
/-- coldest heats go up in ever greater steps -/
theorem cold_conv1 (hb : okB b) {x y d : Rat} (h0 : 0 ≤ x) (hd : 0 ≤ d) (h1 : x + d ≤ y) (h2 : y + d ≤ tot b) : coldP b (x + d) - coldP b x ≤ coldP b (y + d) - coldP b y := by
  by_cases e : x + d = y
  · subst e
    obtain ⟨_, u, hu⟩ := cold_is hb (V := x + d) (by grind) (by grind)
    have p := (cold_is hb h0 (by grind)).1 u
    have q := (cold_is hb (V := x + d + d) (by grind) (by grind)).1 u
    rw [hu]
    grind
  · obtain ⟨pu, u, hu⟩ := cold_is hb (V := x + d) (by grind) (by grind)
    obtain ⟨pv, v, hv⟩ := cold_is hb (V := y) (by grind) (by grind)
    have p := (cold_is hb h0 (by grind)).1 u
    have q := (cold_is hb (V := y + d) (by grind) (by grind)).1 v
    have r := pu v
    have s := pv u
    have t : 0 ≤ (v - u) * (y - (x + d)) := by grind
    have c : 0 < y - (x + d) := by grind
    have k : u ≤ v := by
      apply Classical.byContradiction
      intro n
      have : 0 < (u - v) * (y - (x + d)) := Rat.mul_pos (by grind) c
      grind
    have m : u * d ≤ v * d := Rat.mul_le_mul_of_nonneg_right k hd
    grind
theorem cold_conv (hb : okB b) {x y d : Rat} (h0 : 0 ≤ x) (hd : 0 ≤ d) (h1 : x ≤ y) (h2 : y + d ≤ tot b) : coldP b (x + d) - coldP b x ≤ coldP b (y + d) - coldP b y := by
  by_cases c : x + d ≤ y
  · exact cold_conv1 hb h0 hd c h2
  · have h := cold_conv1 hb (x := x) (y := x + d) (d := y - x) h0 (by grind) (by grind) (by grind)
    rw [show x + (y - x) = y by grind, show x + d + (y - x) = y + d by grind] at h
    grind
theorem htB_mono (hb : okB b) (hV : 0 ≤ V) {x y : Rat} (h0 : 0 ≤ x) (h1 : x ≤ y) (h2 : y + V ≤ tot b) : htB b V x ≤ htB b V y := by
  rw [htB_cold hb hV h0, htB_cold hb hV (by grind)]
  exact cold_conv hb h0 hV h1 h2
theorem htB_zero : htB b V 0 = coldP b V := by
  unfold htB coldP
  rw [show (0 : Rat) + V = V by grind]
theorem htB_last : htB b V (tot b - V) = hotP b V := by
  unfold htB hotP
  rw [show tot b - V + V = tot b by grind]
/-! straight between -/
theorem xst_seg {t0 t1 k e f : Rat} (h0 : 0 ≤ t0) (h1 : t0 ≤ t1) (k0 : 0 ≤ k) (k1 : k ≤ 1) (he : 0 ≤ e) (hf : 0 ≤ f) (c1 : e ≤ t0 ∨ t1 ≤ e) (c2 : e + f ≤ t0 ∨ t1 ≤ e + f) :
    xst 0 (t0 + k * (t1 - t0)) e f = xst 0 t0 e f + k * (xst 0 t1 e f - xst 0 t0 e f) := by
  have a : 0 ≤ k * (t1 - t0) := Rat.mul_nonneg k0 (by grind)
  have a2 : k * (t1 - t0) ≤ 1 * (t1 - t0) := Rat.mul_le_mul_of_nonneg_right k1 (by grind)
  generalize hm : k * (t1 - t0) = m at a a2
  have X : ∀ t, t0 ≤ t → t ≤ t1 → xst 0 t e f = if t1 ≤ e then 0 else if e + f ≤ t0 then f else t - e := by
    intro t p q
    unfold xst ab
    (repeat' split) <;> grind
  rw [X _ (by grind) (by grind), X t0 (by grind) h1, X t1 h1 (by grind)]
  split
  · grind
  · split <;> grind
theorem cold_seg (hb : okB b) {t0 t1 k : Rat} (h0 : 0 ≤ t0) (h1 : t0 ≤ t1) (h2 : t1 ≤ tot b) (k0 : 0 ≤ k) (k1 : k ≤ 1) (hz : ∀ z ∈ endsP b, z.2 ≤ t0 ∨ t1 ≤ z.2) :
    coldP b (t0 + k * (t1 - t0)) = coldP b t0 + k * (coldP b t1 - coldP b t0) := by
  unfold coldP
  rw [mixH_ends, mixH_ends, mixH_ends, ← sm_sub, Rat.mul_comm k (sm _), ← sm_scale, ← sm_add]
  refine sm_congr fun z h => ?_
  obtain ⟨a, c⟩ := endsP_ge hb.2 h
  have d : z.2 + fl b z.1 ≤ t0 ∨ t1 ≤ z.2 + fl b z.1 := by
    rcases endsP_next h with e | ⟨y, hy, e⟩
    · right; grind
    · rw [← e]; exact hz y hy
  rw [xst_seg h0 h1 k0 k1 a (by grind) (hz z h) d]
  grind
theorem htB_seg (hb : okB b) (hV : 0 ≤ V) {x y k : Rat} (h0 : 0 ≤ x) (h1 : x ≤ y) (h2 : y + V ≤ tot b) (k0 : 0 ≤ k) (k1 : k ≤ 1) (hz : ∀ z ∈ endsP b, (z.2 ≤ x ∨ y ≤ z.2) ∧ (z.2 - V ≤ x ∨ y ≤ z.2 - V)) :
    htB b V (x + k * (y - x)) = htB b V x + k * (htB b V y - htB b V x) := by
  have a : 0 ≤ k * (y - x) := Rat.mul_nonneg k0 (by grind)
  rw [htB_cold hb hV (by grind), htB_cold hb hV h0, htB_cold hb hV (by grind)]
  rw [cold_seg hb h0 h1 (by grind) k0 k1 fun z h => (hz z h).1]
  have e := cold_seg hb (t0 := x + V) (t1 := y + V) (k := k) (by grind) (by grind) h2 k0 k1 fun z h => by have := (hz z h).2; grind
  rw [show x + V + k * (y + V - (x + V)) = x + k * (y - x) + V by grind] at e
  rw [e]
  grind
end
/-! ### sorting -/
def cntR (x : Rat) (L : List Rat) : Nat := (L.filter fun y => decide (y < x)).length
def insR (L : List Rat) (x : Rat) : List Rat := L.take (cntR x L) ++ [x] ++ L.drop (cntR x L)
def srtR (L : List Rat) : Prop := L.Pairwise fun x y => x < y
theorem cntR_split {x : Rat} : ∀ {L : List Rat}, L.Pairwise (fun x y => x ≤ y) → (∀ y ∈ L.take (cntR x L), y < x) ∧ ∀ y ∈ L.drop (cntR x L), x ≤ y
  | [], _ => ⟨fun _ h => by simp at h, fun _ h => by simp at h⟩
  | k :: L, h => by
    obtain ⟨h1, h2⟩ := List.pairwise_cons.mp h
    obtain ⟨i1, i2⟩ := cntR_split (x := x) h2
    by_cases c : k < x
    · have e : cntR x (k :: L) = cntR x L + 1 := by
        unfold cntR
        rw [List.filter_cons_of_pos (by simp [c]), List.length_cons]
      rw [e, List.take_succ_cons, List.drop_succ_cons]
      refine ⟨fun j hj => ?_, i2⟩
      rcases List.mem_cons.mp hj with rfl | hj
      · exact c
      · exact i1 j hj
    · have e : cntR x (k :: L) = 0 := by
        unfold cntR
        rw [List.length_eq_zero_iff, List.filter_eq_nil_iff]
        intro j hj
        rcases List.mem_cons.mp hj with rfl | hj
        · simp [c]
        · have := h1 j hj
          have : ¬ j < x := by grind
          simp [this]
      rw [e]
      refine ⟨fun j hj => by simp at hj, fun j hj => ?_⟩
      rw [List.drop_zero] at hj
      rcases List.mem_cons.mp hj with rfl | hj
      · grind
      · have := h1 j hj
        grind
theorem srtR.le {L : List Rat} (h : srtR L) : L.Pairwise (fun x y => x ≤ y) := h.imp fun h => by grind
theorem insR_mem {L : List Rat} {x y : Rat} : y ∈ insR L x ↔ y ∈ L ∨ y = x := by
  unfold insR
  rw [List.append_assoc, List.singleton_append]
  have := List.perm_middle (a := x) (l₁ := L.take (cntR x L)) (l₂ := L.drop (cntR x L))
  rw [this.mem_iff, List.mem_cons, List.take_append_drop, or_comm]
theorem insR_srt {L : List Rat} {x : Rat} (h : srtR L) (n : x ∉ L) : srtR (insR L x) := by
  obtain ⟨h1, h2⟩ := cntR_split (x := x) h.le
  unfold insR srtR
  rw [List.append_assoc, List.pairwise_append, List.pairwise_append]
  have h2 : ∀ y ∈ L.drop (cntR x L), x < y := fun y hy => by
    have := h2 y hy
    by_cases e : x = y
    · subst e; exact absurd (List.mem_of_mem_drop hy) n
    · grind
  refine ⟨List.Pairwise.sublist (List.take_sublist _ _) h, ⟨List.pairwise_singleton _ _, List.Pairwise.sublist (List.drop_sublist _ _) h, fun a ha b hb => ?_⟩, fun a ha b hb => ?_⟩
  · rw [List.mem_singleton] at ha
    subst ha
    exact h2 b hb
  · have a1 := h1 a ha
    rcases List.mem_append.mp hb with hb | hb
    · rw [List.mem_singleton] at hb
      subst hb
      exact a1
    · have := h2 b hb
      grind
theorem foldR : ∀ (xs L : List Rat), srtR L → xs.Nodup → (∀ x ∈ xs, x ∉ L) → srtR (xs.foldl insR L) ∧ ∀ y, y ∈ xs.foldl insR L ↔ y ∈ L ∨ y ∈ xs
  | [], L, h, _, _ => ⟨h, fun y => by simp⟩
  | x :: xs, L, h, nd, n => by
    obtain ⟨n1, n2⟩ := List.nodup_cons.mp nd
    obtain ⟨a, c⟩ := foldR xs (insR L x) (insR_srt h (n x List.mem_cons_self)) n2 fun y hy => by
      rw [insR_mem]
      rintro (g | rfl)
      · exact n y (List.mem_cons_of_mem _ hy) g
      · exact n1 hy
    refine ⟨a, fun y => ?_⟩
    rw [List.foldl_cons, c, insR_mem, List.mem_cons, or_assoc]
/-- all up to a last one, each once -/
def innP (last : Rat) (L : List Rat) : List Rat := ((List.range L.length).filter fun i => !decide (last < gq L i) && !(L.take i).contains (gq L i)).map (gq L)
theorem gq_take {L : List Rat} {i j : Nat} (h : i < j) (hj : i < L.length) : gq L i ∈ L.take j := by
  rw [List.mem_iff_getElem?]
  exact ⟨i, by rw [List.getElem?_take_of_lt h]; exact gq_get hj⟩
theorem innP_mem {last : Rat} {L : List Rat} {y : Rat} : y ∈ innP last L ↔ y ∈ L ∧ y ≤ last := by
  unfold innP
  rw [List.mem_map]
  constructor
  · rintro ⟨i, hi, rfl⟩
    obtain ⟨a, c⟩ := List.mem_filter.mp hi
    rw [List.mem_range] at a
    simp only [Bool.and_eq_true, Bool.not_eq_true', decide_eq_false_iff_not] at c
    exact ⟨List.mem_of_getElem? (gq_get a), by have := c.1; grind⟩
  · rintro ⟨h, c⟩
    have k : L.idxOf y < L.length := List.idxOf_lt_length_iff.mpr h
    have e : gq L (L.idxOf y) = y := by
      have := gq_get k
      rw [List.getElem?_eq_getElem k, List.getElem_idxOf] at this
      exact (Option.some.inj this).symm
    refine ⟨L.idxOf y, List.mem_filter.mpr ⟨List.mem_range.mpr k, ?_⟩, e⟩
    rw [e]
    have n : y ∉ L.take (L.idxOf y) := fun m => by
      obtain ⟨j, hj⟩ := List.mem_iff_getElem?.mp m
      have hj2 : j < L.idxOf y := by
        apply Classical.byContradiction
        intro n
        rw [List.getElem?_take_eq_none (by omega)] at hj
        cases hj
      rw [List.getElem?_take_of_lt hj2] at hj
      have hl : j < L.length := by omega
      rw [List.getElem?_eq_getElem hl] at hj
      have q := List.not_of_lt_findIdx (p := fun z => z == y) (xs := L) (i := j) hj2
      rw [Option.some.inj hj] at q
      simp at q
    have : ¬ last < y := by grind
    simp [this, n]
theorem innP_nodup {last : Rat} {L : List Rat} : (innP last L).Nodup := by
  unfold innP List.Nodup
  rw [List.pairwise_map]
  have h : ((List.range L.length).filter fun i => !decide (last < gq L i) && !(L.take i).contains (gq L i)).Pairwise (· < ·) := List.Pairwise.filter _ List.pairwise_lt_range
  refine h.imp_of_mem fun {i j} hi hj hij e => ?_
  have c := (List.mem_filter.mp hj).2
  have a := List.mem_range.mp (List.mem_filter.mp hj).1
  simp only [Bool.and_eq_true, Bool.not_eq_true', List.contains_eq_mem, decide_eq_false_iff_not] at c
  exact c.2 (e ▸ gq_take hij (by omega))
end MC

end
section
namespace MC
open PySem PySem.Spec L2 DL MW
section
variable {b : Bd} {V : Rat}
def begL (b : Bd) (V : Rat) : List Rat := 0 :: ((endsP b).flatMap fun z => [z.2, ab (z.2 - V)]) ++ [tot b - V]
def begs (b : Bd) (V : Rat) : List Rat := (innP (tot b - V) (begL b V)).foldl insR []
theorem begs_mem {y : Rat} : y ∈ begs b V ↔ y ∈ begL b V ∧ y ≤ tot b - V := by
  have h := (foldR (innP (tot b - V) (begL b V)) [] List.Pairwise.nil innP_nodup fun _ _ h => by cases h).2 y
  unfold begs
  rw [h, innP_mem]
  simp
theorem begs_srt (b : Bd) (V : Rat) : srtR (begs b V) := (foldR (innP (tot b - V) (begL b V)) [] List.Pairwise.nil innP_nodup fun _ _ h => by cases h).1
theorem begL_nn (hb : okB b) (h1 : V ≤ tot b) {y : Rat} (h : y ∈ begL b V) : 0 ≤ y := by
  unfold begL at h
  rcases List.mem_append.mp h with h | h
  · rcases List.mem_cons.mp h with rfl | h
    · grind
    · obtain ⟨z, hz, h⟩ := List.mem_flatMap.mp h
      simp only [List.mem_cons, List.not_mem_nil, or_false] at h
      rcases h with rfl | rfl
      · exact (endsP_ge hb.2 hz).1
      · exact ab_nn _
  · rw [List.mem_singleton] at h
    grind
theorem begs_zero (h1 : V ≤ tot b) : 0 ∈ begs b V := begs_mem.mpr ⟨by unfold begL; simp, by grind⟩
theorem begs_last : tot b - V ∈ begs b V := begs_mem.mpr ⟨by unfold begL; simp, by grind⟩
def hts (b : Bd) (V : Rat) : List Rat := (begs b V).map (htB b V)
theorem hts_le (hb : okB b) (h0 : 0 ≤ V) (h1 : V ≤ tot b) : (hts b V).Pairwise fun x y => x ≤ y := by
  unfold hts
  rw [List.pairwise_map]
  refine (begs_srt b V).imp_of_mem fun {x y} hx hy h => ?_
  obtain ⟨a, c⟩ := begs_mem.mp hx
  obtain ⟨d, e⟩ := begs_mem.mp hy
  exact htB_mono hb h0 (begL_nn hb h1 a) (by grind) (by grind)
theorem gq_pw {L : List Rat} {R : Rat → Rat → Prop} (h : L.Pairwise R) {i j : Nat} (hij : i < j) (hj : j < L.length) : R (gq L i) (gq L j) := by
  have := List.pairwise_iff_getElem.mp h i j (by omega) hj hij
  have a := gq_get (qs := L) (i := i) (by omega)
  have c := gq_get (qs := L) (i := j) hj
  rw [List.getElem?_eq_getElem (by omega)] at a c
  rw [← Option.some.inj a, ← Option.some.inj c]
  exact this
theorem gq_mem {L : List Rat} {i : Nat} (h : i < L.length) : gq L i ∈ L := List.mem_of_getElem? (gq_get h)
theorem mem_gq {L : List Rat} {y : Rat} (h : y ∈ L) : ∃ i, i < L.length ∧ gq L i = y := by
  obtain ⟨i, hi⟩ := List.mem_iff_getElem?.mp h
  have hl : i < L.length := by
    apply Classical.byContradiction
    intro n
    rw [List.getElem?_eq_none (by omega)] at hi
    cases hi
  exact ⟨i, hl, by have := gq_get hl; rw [hi] at this; exact (Option.some.inj this).symm⟩
theorem gq_map {L : List Rat} {f : Rat → Rat} {i : Nat} (h : i < L.length) : gq (L.map f) i = f (gq L i) := by
  have a := gq_get (qs := L.map f) (i := i) (by rw [List.length_map]; exact h)
  rw [List.getElem?_map, gq_get h] at a
  exact (Option.some.inj a).symm
def atB (b : Bd) (V H : Rat) : Nat := cntR H (hts b V)
def shB' (b : Bd) (V H : Rat) : Rat := (H - gq (hts b V) (atB b V H - 1)) / (gq (hts b V) (atB b V H) - gq (hts b V) (atB b V H - 1))
def begB (b : Bd) (V H : Rat) : Rat := if gq (hts b V) (atB b V H) = H then gq (begs b V) (atB b V H) else
  gq (begs b V) (atB b V H - 1) + shB' b V H * (gq (begs b V) (atB b V H) - gq (begs b V) (atB b V H - 1))
theorem gq_drop {L : List Rat} {i k : Nat} (h : k ≤ i) (hi : i < L.length) : gq L i ∈ L.drop k := by
  rw [List.mem_iff_getElem?]
  exact ⟨i - k, by rw [List.getElem?_drop, show k + (i - k) = i by omega]; exact gq_get hi⟩
theorem at_lt (hb : okB b) (h0 : 0 ≤ V) (h1 : V ≤ tot b) {H : Rat} (hh : H ≤ hotP b V) : atB b V H < (hts b V).length := by
  have s := cntR_split (x := H) (hts_le hb h0 h1)
  apply Classical.byContradiction
  intro n
  have m : hotP b V ∈ hts b V := List.mem_map.mpr ⟨_, begs_last, htB_last⟩
  rw [List.take_of_length_le (i := cntR H (hts b V)) (Nat.le_of_not_lt n)] at s
  have := s.1 _ m
  grind
theorem at_ge (hb : okB b) (h0 : 0 ≤ V) (h1 : V ≤ tot b) {H : Rat} (hh : H ≤ hotP b V) : H ≤ gq (hts b V) (atB b V H) :=
  (cntR_split (x := H) (hts_le hb h0 h1)).2 _ (gq_drop (Nat.le_refl _) (at_lt hb h0 h1 hh))
theorem at_pos (hb : okB b) (h0 : 0 ≤ V) (h1 : V ≤ tot b) {H : Rat} (hc : coldP b V ≤ H) (hh : H ≤ hotP b V) (n : gq (hts b V) (atB b V H) ≠ H) : 1 ≤ atB b V H ∧ gq (hts b V) (atB b V H - 1) < H := by
  have s := cntR_split (x := H) (hts_le hb h0 h1)
  have l := at_lt hb h0 h1 hh
  have g := at_ge hb h0 h1 hh
  have m : coldP b V ∈ hts b V := List.mem_map.mpr ⟨_, begs_zero h1, htB_zero⟩
  have p : 1 ≤ atB b V H := by
    apply Classical.byContradiction
    intro z
    have z : atB b V H = 0 := by omega
    obtain ⟨i, hi, e⟩ := mem_gq m
    rw [z] at g n
    by_cases c : i = 0
    · subst c; grind
    · have := gq_pw (hts_le hb h0 h1) (i := 0) (j := i) (by omega) hi
      grind
  exact ⟨p, s.1 _ (gq_take (i := atB b V H - 1) (by unfold atB at p ⊢; omega) (by omega))⟩
theorem hts_len : (hts b V).length = (begs b V).length := by rw [hts, List.length_map]
theorem begB_ok (hb : okB b) (h0 : 0 ≤ V) (h1 : V ≤ tot b) {H : Rat} (hc : coldP b V ≤ H) (hh : H ≤ hotP b V) : 0 ≤ begB b V H ∧ begB b V H ≤ tot b - V ∧ htB b V (begB b V H) = H := by
  have l := at_lt hb h0 h1 hh
  have g := at_ge hb h0 h1 hh
  have lb : atB b V H < (begs b V).length := by rw [← hts_len]; exact l
  have bd : ∀ i, i < (begs b V).length → 0 ≤ gq (begs b V) i ∧ gq (begs b V) i ≤ tot b - V := fun i hi => by
    obtain ⟨a, c⟩ := begs_mem.mp (gq_mem hi)
    exact ⟨begL_nn hb h1 a, c⟩
  unfold begB
  split
  · rename_i e
    obtain ⟨a, c⟩ := bd _ lb
    refine ⟨a, c, ?_⟩
    rw [hts, gq_map lb] at e
    exact e
  · rename_i n
    obtain ⟨p, q⟩ := at_pos hb h0 h1 hc hh n
    have hx := bd (atB b V H - 1) (by omega)
    have hy := bd (atB b V H) lb
    have xy : gq (begs b V) (atB b V H - 1) < gq (begs b V) (atB b V H) := gq_pw (begs_srt b V) (by omega) lb
    have ex : gq (hts b V) (atB b V H - 1) = htB b V (gq (begs b V) (atB b V H - 1)) := gq_map (by omega)
    have ey : gq (hts b V) (atB b V H) = htB b V (gq (begs b V) (atB b V H)) := gq_map lb
    have btw : ∀ t, t ∈ begs b V → t ≤ gq (begs b V) (atB b V H - 1) ∨ gq (begs b V) (atB b V H) ≤ t := fun t ht => by
      obtain ⟨i, hi, e⟩ := mem_gq ht
      subst e
      by_cases c : i ≤ atB b V H - 1
      · left
        by_cases d : i = atB b V H - 1
        · rw [d]; exact Rat.le_refl
        · have := gq_pw (begs_srt b V) (i := i) (j := atB b V H - 1) (by omega) (by omega)
          grind
      · right
        by_cases d : i = atB b V H
        · rw [d]; exact Rat.le_refl
        · have := gq_pw (begs_srt b V) (i := atB b V H) (j := i) (by omega) hi
          grind
    unfold shB'
    rw [ex, ey]
    rw [ex] at q
    rw [ey] at n g
    generalize hX : gq (begs b V) (atB b V H - 1) = x at *
    generalize hY : gq (begs b V) (atB b V H) = y at *
    have d0 : 0 < htB b V y - htB b V x := by grind
    have dn : htB b V y - htB b V x ≠ 0 := by grind
    have e1 : (H - htB b V x) / (htB b V y - htB b V x) * (htB b V y - htB b V x) = H - htB b V x := Rat.div_mul_cancel dn
    generalize (H - htB b V x) / (htB b V y - htB b V x) = k at e1
    have k0 : 0 ≤ k := by
      apply Classical.byContradiction
      intro c
      have : 0 < (-k) * (htB b V y - htB b V x) := Rat.mul_pos (by grind) d0
      grind
    have k1 : k ≤ 1 := by
      apply Classical.byContradiction
      intro c
      have : 0 < (k - 1) * (htB b V y - htB b V x) := Rat.mul_pos (by grind) d0
      grind
    have a1 : 0 ≤ k * (y - x) := Rat.mul_nonneg k0 (by grind)
    have a2 : k * (y - x) ≤ 1 * (y - x) := Rat.mul_le_mul_of_nonneg_right k1 (by grind)
    refine ⟨by grind, by grind, ?_⟩
    rw [htB_seg hb h0 hx.1 (by grind) (by grind) k0 k1 fun z hz => ?_, e1]
    · grind
    · have inL : ∀ t, t ∈ [z.2, ab (z.2 - V)] → t ∈ begL b V := fun t ht => by
        unfold begL
        exact List.mem_append_left _ (List.mem_cons_of_mem _ (List.mem_flatMap.mpr ⟨z, hz, ht⟩))
      constructor
      · by_cases c : z.2 ≤ tot b - V
        · exact btw _ (begs_mem.mpr ⟨inL _ List.mem_cons_self, c⟩)
        · right; grind
      · by_cases c : ab (z.2 - V) ≤ tot b - V
        · have := btw _ (begs_mem.mpr ⟨inL _ (List.mem_cons_of_mem _ List.mem_cons_self), c⟩)
          unfold ab at this
          split at this <;> grind
        · unfold ab at c
          split at c
          · exact absurd (by grind) c
          · right; grind
end
/-! ### how many taps are partly open -/
def prt (q f : Rat) : Bool := !decide (q = 0) && !decide (q = f)
def prtN (b : Bd) (v : List Rat) : Nat := ((v.zip b).filter fun z => prt z.1 z.2.1).length
theorem len_sm {A : Type} (p : A → Bool) : ∀ l : List A, (((l.filter p).length : Nat) : Rat) = sm (l.map fun x => if p x = true then 1 else 0)
  | [] => by simp [sm_nil]
  | x :: l => by
    have ih := len_sm p l
    rw [List.map_cons, sm_cons, ← ih]
    by_cases c : p x = true
    · rw [List.filter_cons_of_pos c, if_pos c, List.length_cons]
      push_cast
      grind
    · rw [List.filter_cons_of_neg c, if_neg c]
      grind
theorem sm_le {A : Type} {f g : A → Rat} : ∀ {l : List A}, (∀ x ∈ l, f x ≤ g x) → sm (l.map f) ≤ sm (l.map g)
  | [], _ => by rw [List.map_nil, List.map_nil]; exact Rat.le_refl
  | x :: l, h => by
    rw [List.map_cons, List.map_cons, sm_cons, sm_cons]
    have := sm_le (l := l) fun y hy => h y (List.mem_cons_of_mem _ hy)
    have := h x List.mem_cons_self
    grind
theorem ends_one (g : Nat → Rat) (t : Rat) : ∀ (P : List Nat) (e : Rat), (∀ i ∈ P, 0 ≤ g i) →
    (t ≤ e → sm ((ends g e P).map fun z => if z.2 < t ∧ t < z.2 + g z.1 then (1 : Rat) else 0) = 0) ∧ sm ((ends g e P).map fun z => if z.2 < t ∧ t < z.2 + g z.1 then (1 : Rat) else 0) ≤ 1
  | [], e, _ => by rw [ends, List.map_nil, sm_nil]; exact ⟨fun _ => rfl, by decide⟩
  | i :: r, e, h => by
    obtain ⟨a, c⟩ := ends_one g t r (e + g i) fun j hj => h j (List.mem_cons_of_mem _ hj)
    have gi := h i List.mem_cons_self
    rw [ends, List.map_cons, sm_cons]
    refine ⟨fun q => ?_, ?_⟩
    · rw [a (by grind), if_neg (by simp only; grind)]
      grind
    · simp only
      split
      · rename_i d
        rw [a (by grind)]
        grind
      · grind
theorem stretch_plain {b : Bd} {B E : Rat} (hb : ∀ x ∈ b, 0 < x.1) (h1 : B ≤ E) : prtN b (stretchP b B E) ≤ 2 := by
  have e : ((prtN b (stretchP b B E) : Nat) : Rat) ≤ 2 := by
    unfold prtN
    rw [len_sm, stretch_sum b B E (fun q x => if prt q x.1 = true then 1 else 0)]
    have P := fun t => (ends_one (fl b) t (riseP (wq b)) 0 fun i hi => by have := fl_pos hb (riseW_lt hi); grind).2
    have p := P B
    have q := P E
    have s := sm_add (fun z : Nat × Rat => if z.2 < B ∧ B < z.2 + fl b z.1 then (1 : Rat) else 0) (fun z => if z.2 < E ∧ E < z.2 + fl b z.1 then (1 : Rat) else 0) (endsP b)
    refine Rat.le_trans (sm_le (g := fun z => (if z.2 < B ∧ B < z.2 + fl b z.1 then (1 : Rat) else 0) + if z.2 < E ∧ E < z.2 + fl b z.1 then (1 : Rat) else 0) fun z hz => ?_) ?_
    · have f := (endsP_ge hb hz).2
      show (if prt (xst B E z.2 (fl b z.1)) (fl b z.1) = true then (1 : Rat) else 0) ≤ _
      generalize fl b z.1 = f' at *
      unfold prt
      simp only [Bool.and_eq_true, Bool.not_eq_true', decide_eq_false_iff_not]
      unfold xst ab
      (repeat' split) <;> grind
    · rw [s]
      unfold endsP
      grind
  exact Rat.natCast_le_natCast.mp (by simpa using e)
end MC

end
section
namespace DL
open PySem PySem.Spec L2
/-- a, b = e1, e2 by way of the tuple: the second an owned name and a new list -/
theorem pds_parT2 {X : Cx} {W : WX} {own : List Nat} {a b : Expr} {pos : Pos} {f g : DEnv → M D} {i j : Nat} {x y : Str} {px py pt : Pos} {kt k2 pt2} (hc : X.calm = true) (hN : X.N.Nodup) (hi : X.N[i]? = some x) (hj : X.N[j]? = some y)
    (hx : Loc X.env.scope x) (hy : Loc X.env.scope y) (ha : PD X W own a f) (hb : PDN X W own b g) (ho : i ∉ own := by decide) (ho2 : j ∈ own := by decide)
    (hs : swapsWithSole [.Tuple [.Name x px, .Name y py] kt pt] (.Tuple [a, b] k2 pt2) pos.line X.env = pure false := by rfl) (hw : swappedStores [.Tuple [.Name x px, .Name y py] kt pt] (.Tuple [a, b] k2 pt2) X.env = pure none := by rfl)
    (h1 : (assignEach [.Tuple [.Name x px, .Name y py] kt pt] X.env).map (·.2) = [assign (.Tuple [.Name x px, .Name y py] kt pt) X.env] := by rfl)
    (hs1 : starEach [a, b] X.env = (false, eval a X.env) :: starEach [b] X.env := by rfl) (hs2 : starEach [b] X.env = (false, eval b X.env) :: starEach [] X.env := by rfl)
    (ha1 : (assignEach [.Name x px, .Name y py] X.env).map (·.2) = assign (.Name x px) X.env :: (assignEach [.Name y py] X.env).map (·.2) := by rfl) (ha2 : (assignEach [.Name y py] X.env).map (·.2) = assign (.Name y py) X.env :: (assignEach [] X.env).map (·.2) := by rfl)
    (hn : (assignEach [.Name x px, .Name y py] X.env).length = 2 := by rfl) (hst : (assignEach [.Name x px, .Name y py] X.env).findIdx? (·.1) = none := by rfl)
    (hfx : X.fn x = true ∨ X.env.scope.names.lookup x = some .local := by first | exact .inl rfl | exact .inr rfl) (hfy : X.fn y = true ∨ X.env.scope.names.lookup y = some .local := by first | exact .inl rfl | exact .inr rfl) :
    PDS X W own (.Assign [.Tuple [.Name x px, .Name y py] kt pt] (.Tuple [a, b] k2 pt2) pos) (sParO2 i j f g) :=
  (ps_asg (pe_tup (pa_cons ha (pa_cons hb pa_nil hs2) hs1)) (pg_tup hc (pgs_cons (pg_name hN hi hx hfx) (pgs_cons (pg_name hN hj hy hfy) pgs_nil ha2) ha1) (n := 2) hn hst) hs hw h1).imp fun Z σ H ⟨P, ε, p, r, q⟩ => by
  refine tD.sxq (k := fun d ε => sx ε (g ε) fun d' => liftO (newL d') >>= fun d' => if d.free = true then pure (Fl.nx ((ε.set i (some d)).set j (some d'))) else M.fail) r q fun x v H1 p1 k1 r1 rx q1 => ?_
  refine tDN.sxq (k := fun d' ε => liftO (newL d') >>= fun d' => if x.free = true then pure (Fl.nx ((ε.set i (some x)).set j (some d'))) else M.fail) r1 q1 fun y w H2 p2 k2 r2 hq ry q2 => ?_
  obtain ⟨d', e, q3⟩ := Post.lift (Post.thn q2)
  obtain ⟨ds, rfl, rfl, hf⟩ := newL_some e
  split at q3
  · rename_i hf2
    have rx1 := r1.strong rx (.inr hf2)
    have ra := r1.set ho rx1
    have rb := ra.step k2 r2.pool
    have hqa : H1 w = none := hq
    obtain ⟨rr, gg⟩ := ra.ownNew rb ho2 k2 hqa hf ry
    have := line10
    refine ⟨by simp only [List.length_cons, List.length_nil]; omega, fun t ht => ?_⟩
    refine ⟨t, [v, .ref w], rfl, .inl (.inl upd_same), rfl, v, [.ref w], rfl, .ref w, [], rfl, rfl, ?_⟩
    exact q3 _ _ (rr.stepS (same_new ht)) (((Grow.set ho).trans gg).trans (Grow.ex (Kp.same (same_new ht))))
  · exact q3.elim
end DL

end
section
namespace MC4
open PySem PySem.Spec L2 DL
def l_begins_for_1 : DEnv → M Fl :=
  (sMu extD 3 (dCons (dA lstO (dCons (dVar 5) (dCons (dCall 1 MC.m_above_of (dCons (dCall 2 MC.m_minus (dCons (dVar 5) (dCons (dVar 1) dNil))) dNil)) dNil))) dNil))
def c_begins_for_2 : DEnv → M Bool :=
  (dAnd (dNot (dB (dCall 2 MW.m_is_less (dCons (dVar 2) (dCons (dVar 8) dNil))))) (dB (d2 (inD true) (dVar 8) (dSl (dVar 3) oNone (oSome (dVar 9))))))
def e_begins_for_3 : DEnv → M D :=
  (dVar 8)
def c_begins_for_4 : DEnv → M Bool :=
  (dB (dCall 2 MW.m_is_less (dCons (dVar 10) (dCons (dVar 8) dNil))))
def e_begins_for_5 : DEnv → M D :=
  (dVar 10)
def l_begins_for_6 : DEnv → M Fl :=
  (sMu insD 7 (dCons (dA lenD (dCons (dLc (iSeq (dVar 7)) [10] (pN true 10) c_begins_for_4 e_begins_for_5) dNil)) (dCons (dVar 8) dNil)))
def p_begins_for : List (DEnv → M Fl) := [(sParO2 2 3 (dCall 2 MC.m_minus (dCons (dCall 1 MC.m_total_of (dCons (dVar 0) dNil)) (dCons (dVar 1) dNil))) (dA lstO (dCons (dC (.tup [(.int 0), (.int 1)])) dNil))),
  (sFor (iSeq (dNewL (dCall 1 MC.m_ends_of (dCons (dVar 0) dNil)))) (pT [(pN true 4), (pN true 5)]) [4, 5] l_begins_for_1),
  (sSet false 3 (dNewL (dA lstO (dStar (dVar 3) (dCons (dVar 2) dNil))))),
  (sSet false 6 (dNewL (dLc (iO enumD (dCons (dVar 3) dNil)) [9, 8] (pT [(pN true 9), (pN true 8)]) c_begins_for_2 e_begins_for_3))),
  (sSet false 7 (dNewL (dA lstO dNil))),
  (sFor (iSeq (dVar 6)) (pN true 8) [] l_begins_for_6)]
def r_begins_for : DEnv → M D := (dVar 7)
def m_begins_for : List D → M D := runV p_begins_for r_begins_for 11
def e_begin_for_1 : DEnv → M D :=
  (dCall 3 MC.m_heat_at (dCons (dVar 0) (dCons (dVar 7) (dCons (dVar 1) dNil))))
def c_begin_for_2 : DEnv → M Bool :=
  (dB (dCall 2 MW.m_is_less (dCons (dVar 8) (dCons (dVar 2) dNil))))
def e_begin_for_3 : DEnv → M D :=
  (dVar 8)
def b_begin_for : DEnv → M Fl :=
  (sSeq (sSet false 3 (dCall 2 MC4.m_begins_for (dCons (dVar 0) (dCons (dVar 1) dNil)))) (sSeq (sSet false 4 (dLc (iSeq (dVar 3)) [7] (pN false 7) dYes e_begin_for_1)) (sSeq (sSet false 5 (dA lenD (dCons (dLc (iSeq (dVar 4)) [8] (pN false 8) c_begin_for_2 e_begin_for_3) dNil))) (sSeq (sIf (dB (d2 (eqD false) (d2 ixD (dVar 4) (dVar 5)) (dVar 2))) (sRet (d2 ixD (dVar 3) (dVar 5))) sNil) (sSeq (sSet false 6 (dCall 2 MC.m_over (dCons (dCall 2 MC.m_minus (dCons (dVar 2) (dCons (d2 ixD (dVar 4) (d2 subD (dVar 5) (dC (.int 1)))) dNil))) (dCons (dCall 2 MC.m_minus (dCons (d2 ixD (dVar 4) (dVar 5)) (dCons (d2 ixD (dVar 4) (d2 subD (dVar 5) (dC (.int 1)))) dNil))) dNil)))) (sRet (dCall 2 MC.m_plus (dCons (d2 ixD (dVar 3) (d2 subD (dVar 5) (dC (.int 1)))) (dCons (dCall 2 MC.m_times (dCons (dVar 6) (dCons (dCall 2 MC.m_minus (dCons (d2 ixD (dVar 3) (dVar 5)) (dCons (d2 ixD (dVar 3) (d2 subD (dVar 5) (dC (.int 1)))) dNil))) dNil))) dNil)))))))))
def m_begin_for : List D → M D := runB b_begin_for 9
def b_setting_by : DEnv → M Fl :=
  (sSeq (sIf (dNot (dB (dCall 2 MC.m_does_give_by (dCons (dVar 0) (dCons (dVar 1) dNil))))) (sRet (dC .non)) sNil) (sRet (dCall 3 MC.m_stretch_at (dCons (dVar 0) (dCons (dCall 3 MC4.m_begin_for (dCons (dVar 0) (dCons (d2 ixD (dVar 1) (dC (.int 0))) (dCons (d2 ixD (dVar 1) (dC (.int 1))) dNil)))) (dCons (d2 ixD (dVar 1) (dC (.int 0))) dNil))))))
def m_setting_by : List D → M D := runB b_setting_by 2
def b_plain_setting : DEnv → M Fl :=
  (sSeq (sDrop (dCall 2 MC.m_check_mixed (dCons (dVar 0) (dCons (dVar 1) dNil)))) (sRet (dCall 2 MC4.m_setting_by (dCons (dVar 0) (dCons (dVar 1) dNil)))))
def m_plain_setting : List D → M D := runB b_plain_setting 2
def c_is_plain_1 : DEnv → M Bool :=
  (dB (d2 (inD true) (dVar 3) (dA tupO (dCons (dC (.tup [(.int 0), (.int 1)])) (dCons (dVar 4) dNil)))))
def e_is_plain_2 : DEnv → M D :=
  (dC (.int 1))
def b_is_plain : DEnv → M Fl :=
  (sSeq (sDrop (dCall 2 MC.m_check_set (dCons (dVar 0) (dCons (dVar 1) dNil)))) (sSeq (sSet false 2 (dLc (iO zipD (dCons (dVar 1) (dCons (dVar 0) dNil))) [3, 4, 5] (pT [(pN false 3), (pT [(pN false 4), (pN false 5)])]) c_is_plain_1 e_is_plain_2)) (sRet (d2 leD (dA lenD (dCons (dVar 2) dNil)) (dC (.int 2))))))
def m_is_plain : List D → M D := runB b_is_plain 6
def b_is_setting : DEnv → M Fl :=
  (sSeq (sDrop (dCall 1 MW.m_check_board (dCons (dVar 0) dNil))) (sRet (dCall 2 MW.m_is_setting_of (dCons (dVar 0) (dCons (dVar 1) dNil)))))
def m_is_setting : List D → M D := runB b_is_setting 2
end MC4

end
section
namespace MC
open PySem PySem.Spec L2 DL MW
section
variable {b : Bd} {N M K m : Nat} {V : Rat}
theorem flat_fold (V : Rat) : ∀ (Z : List (Nat × Rat)) (L : List Rat), Z.foldl (fun L z => L ++ [z.2, ab (z.2 - V)]) L = L ++ Z.flatMap fun z => [z.2, ab (z.2 - V)]
  | [], L => by simp
  | z :: Z, L => by rw [List.foldl_cons, flat_fold V Z, List.flatMap_cons, List.append_assoc]
theorem any_frD (q : Rat) (L : List Rat) : ((L.map frD).any fun z => eqv z (frD q)) = L.contains q := by
  rw [List.any_map, Bool.eq_iff_iff]
  simp only [List.any_eq_true, Function.comp, eqv_frD', decide_eq_true_eq, List.contains_iff_mem]
  exact ⟨fun ⟨x, hx, e⟩ => e ▸ hx, fun h => ⟨q, h, rfl⟩⟩
theorem newL_nil : newL (.lst []) = some (.lst []) := by simp [newL]
theorem sh_lfrD (L : List Rat) : sh 20 (.lst (L.map frD)) = true := by
  rw [sh_l, List.all_map, List.all_eq_true]
  exact fun x _ => rfl
def fl0 (b : Bd) (V : Rat) : List Rat := [0] ++ ((endsP b).flatMap fun z => [z.2, ab (z.2 - V)])
theorem begL_lat (hN : N ≠ 0) (hlat : ∀ x ∈ b, lat N M x.1) (hl : b.length ≤ 8) (hV : lat N K V) {y : Rat} (h : y ∈ begL b V) : lat N (8 * M + K) y := by
  unfold begL at h
  rcases List.mem_append.mp h with h | h
  · rcases List.mem_cons.mp h with rfl | h
    · exact lat.zero.mono (by omega)
    · obtain ⟨z, hz, h⟩ := List.mem_flatMap.mp h
      have e := endsP_lat hN hlat hl hz
      simp only [List.mem_cons, List.not_mem_nil, or_false] at h
      rcases h with rfl | rfl
      · exact e.mono (by omega)
      · exact ((e.sub hN hV).mono (by omega)).ab
  · rw [List.mem_singleton] at h
    subst h
    exact (tot_lat hN hlat hl).sub hN hV
theorem begs_lat (hN : N ≠ 0) (hlat : ∀ x ∈ b, lat N M x.1) (hl : b.length ≤ 8) (hV : lat N K V) {y : Rat} (h : y ∈ begs b V) : lat N (8 * M + K) y := begL_lat hN hlat hl hV (begs_mem.mp h).1
theorem begL_len (hl : b.length ≤ 8) : (begL b V).length ≤ 18 := by
  have : ∀ Z : List (Nat × Rat), (Z.flatMap fun z => [z.2, ab (z.2 - V)]).length = 2 * Z.length := fun Z => by
    induction Z with
    | nil => rfl
    | cons z Z ih => rw [List.flatMap_cons, List.length_append, ih, List.length_cons]; simp only [List.length_cons, List.length_nil]; omega
  have e : (endsP b).length = b.length := by
    have := (endsP_ok b).2.2.length_eq
    rw [List.length_map, List.length_range] at this
    exact this
  unfold begL
  rw [List.length_append, List.length_cons, this, e]
  simp only [List.length_cons, List.length_nil]
  omega
theorem foldR_len : ∀ (xs L : List Rat), (xs.foldl insR L).length = L.length + xs.length
  | [], L => by simp
  | x :: xs, L => by
    rw [List.foldl_cons, foldR_len xs]
    unfold insR
    rw [List.append_assoc, List.length_append, List.length_append, List.length_singleton, List.length_cons]
    have := List.take_append_drop (cntR x L) L
    have := congrArg List.length this
    rw [List.length_append] at this
    omega
theorem begs_len (hl : b.length ≤ 8) : (begs b V).length ≤ 18 := by
  unfold begs
  rw [foldR_len]
  have := begL_len (V := V) hl
  unfold innP
  rw [List.length_map]
  have := List.length_filter_le (fun i => !decide (tot b - V < gq (begL b V) i) && !((begL b V).take i).contains (gq (begL b V) i)) (List.range (begL b V).length)
  rw [List.length_range] at this
  simp only [List.length_nil]
  omega
theorem beginsfor_ok (h : OkL N M K m b) (hb : okB b) (hV : lat N K V) (p : Pool) : MC4.m_begins_for [bdD b, frD V] p = .ok (.lst ((begs b V).map frD)) p := by
  have hl := hb.1.2
  have k1 := h.k1
  have hT := tot_lat h.n0 h.lt hl
  have t := totalof_ok h.sz hl (by have := h.m1; omega) p
  have mi := fun p => minus_ok (h.szT hl) (h.szV hV) (by decide) p
  have zl : szR 300 (tot b - V) := (hT.sub h.n0 hV).szR h.n0 h.n1 (by omega)
  have en := endsof_ok h.n0 h.lt h.sz hl (by have := h.m1; omega) h.n1 (by omega) p
  have eE : (endsP b).length = b.length := by
    have := (endsP_ok b).2.2.length_eq
    rw [List.length_map, List.length_range] at this
    exact this
  -- statement 2
  have l2 := (loopF_foldR (t := pT [pN true 4, pN true 5]) (b := MC4.l_begins_for_1) (ks := [4, 5]) (p := p) (fun L : List Rat => [some (bdD b), some (frD V), some (frD (tot b - V)), some (.lst (L.map frD)), none, none, none, none, none, none, none])
    eD (fun L z => L ++ [z.2, ab (z.2 - V)]) (fun r L => (∀ z ∈ r, lat N (M * 8) z.2) ∧ L.length + 2 * r.length ≤ 100) (endsP b) [0] ⟨fun z hz => endsP_lat h.n0 h.lt hl hz, by rw [eE]; simp only [List.length_cons, List.length_nil]; omega⟩ (fun z r L ⟨j1, j2⟩ => by
    rw [List.length_cons] at j2
    have e := j1 z List.mem_cons_self
    refine ⟨⟨fun y hy => j1 y (List.mem_cons_of_mem _ hy), by rw [List.length_append]; simp only [List.length_cons, List.length_nil]; omega⟩, ?_⟩
    have ze := e.szR h.n0 h.n1 (show M * 8 < 2 ^ 300 by omega)
    have f1 := fun p => minus_ok ze (h.szV hV) (by decide) p
    have f2 := fun p => above_ok (n := 601) (szR_sub ze (h.szV hV)) (by decide) (by decide) p
    have ex : extD (L.map frD) [.lst [frD z.2, frD (ab (z.2 - V))]] = some ((L ++ [z.2, ab (z.2 - V)]).map frD) := by
      rw [extD_ok (by simp [D.frees, free_frD]) (by rw [List.length_map]; omega) (by simp)]
      simp
    refine ⟨[some (bdD b), some (frD V), some (frD (tot b - V)), some (.lst (L.map frD)), some (nD z.1), some (frD z.2), none, none, none, none, none], [some (bdD b), some (frD V), some (frD (tot b - V)), some (.lst ((L ++ [z.2, ab (z.2 - V)]).map frD)), some (nD z.1), some (frD z.2), none, none, none, none, none], rfl, ?_, rfl⟩
    generalize (L ++ [z.2, ab (z.2 - V)]).map frD = L2 at *
    generalize L.map frD = L1 at *
    generalize bdD b = BB at *
    simp [MC4.l_begins_for_1, lstO_of, f1, f2, ex])).1
  rw [flat_fold] at l2
  have eL : fl0 b V ++ [tot b - V] = begL b V := rfl
  have eL0 : [0] ++ ((endsP b).flatMap fun z => [z.2, ab (z.2 - V)]) = fl0 b V := rfl
  rw [eL0] at l2
  have fE : D.frees ((endsP b).map eD) = true := frees_map (fun z => by simp [eD, nD, free_frD, D.free, D.frees]) _
  -- statement 4
  have zL : ∀ y ∈ begL b V, szR 300 y := fun y hy => (begL_lat h.n0 h.lt hl hV hy).szR h.n0 h.n1 (by omega)
  have s4 := lcM_filT (t := pT [pN true 9, pN true 8]) (fb := MC4.c_begins_for_2) (f := MC4.e_begins_for_3) (p := p)
    (ε := [some (bdD b), some (frD V), some (frD (tot b - V)), some (.lst ((begL b V).map frD)), none, none, none, none, none, none, none]) (fun i : Nat => .tup [.int (i : Nat), frD (gq (begL b V) i)])
    (fun i => !decide (tot b - V < gq (begL b V) i) && !((begL b V).take i).contains (gq (begL b V) i)) (fun i => frD (gq (begL b V) i)) (List.range (begL b V).length) (fun i hi => by
    have hi := List.mem_range.mp hi
    have zy := zL _ (gq_mem hi)
    have l := fun p => lessc_ok zl zy (by decide) p
    have c1 : cut ((begL b V).map frD) none (some ((i : Nat) : Int)) = ((begL b V).take i).map frD := by rw [List.map_take]; exact cut_up _ _
    have sl : slD none (some ((i : Nat) : Int)) (.lst ((begL b V).map frD)) = some (.lst (((begL b V).take i).map frD)) := by rw [← c1]; rfl
    have hin : inD true (frD (gq (begL b V) i)) (.lst (((begL b V).take i).map frD)) = some (.bl (!((begL b V).take i).contains (gq (begL b V) i))) := by
      unfold inD
      simp only
      rw [if_pos (by rw [sh_frD, sh_lfrD]; rfl), any_frD]
      simp
    refine ⟨[some (bdD b), some (frD V), some (frD (tot b - V)), some (.lst ((begL b V).map frD)), none, none, none, none, some (frD (gq (begL b V) i)), some (.int (i : Nat)), none], rfl, ?_, fun _ => ?_⟩
    · generalize ((begL b V).take i).contains (gq (begL b V) i) = cc at *
      generalize (begL b V).map frD = LL at *
      generalize ((begL b V).take i).map frD = LT at *
      generalize gq (begL b V) i = y at *
      generalize bdD b = BB at *
      by_cases c : tot b - V < y
      · simp [MC4.c_begins_for_2, l, c]
      · simp [MC4.c_begins_for_2, l, c, sl, hin, -slD_l]
    · simp [MC4.e_begins_for_3])
  rw [← enum_frD, show (((List.range (begL b V).length).filter fun i => !decide (tot b - V < gq (begL b V) i) && !((begL b V).take i).contains (gq (begL b V) i)).map fun i => frD (gq (begL b V) i)) = (innP (tot b - V) (begL b V)).map frD by unfold innP; rw [List.map_map]; rfl] at s4
  -- statement 6
  have iM : ∀ y ∈ innP (tot b - V) (begL b V), szR 300 y := fun y hy => zL y (innP_mem.mp hy).1
  have iL : (innP (tot b - V) (begL b V)).length ≤ 18 := by
    have := begs_len (V := V) hl
    unfold begs at this
    rw [foldR_len] at this
    simpa using this
  have l6 := (loopF_foldR (t := pN true 8) (b := MC4.l_begins_for_6) (ks := []) (p := p) (fun s : List Rat × DEnv => [some (bdD b), some (frD V), some (frD (tot b - V)), some (.lst ((begL b V).map frD)), none, none, some (.lst ((innP (tot b - V) (begL b V)).map frD)), some (.lst (s.1.map frD))] ++ s.2)
    frD (fun s x => (insR s.1 x, [some (frD x), none, none])) (fun r s => (∀ y ∈ s.1, szR 300 y) ∧ (∀ y ∈ r, szR 300 y) ∧ s.1.length + r.length ≤ 100 ∧ ∃ x, s.2 = [x, none, none]) (innP (tot b - V) (begL b V)) ([], [none, none, none]) ⟨fun _ h => by simp at h, iM, by simp only [List.length_nil]; omega, _, rfl⟩ (fun x r s ⟨j1, j2, j3, x0, j4⟩ => by
    obtain ⟨L, e0⟩ := s
    simp only at j1 j3 j4
    subst j4
    have hx := j2 x List.mem_cons_self
    rw [List.length_cons] at j3
    refine ⟨⟨fun y hy => ?_, fun y hy => j2 y (List.mem_cons_of_mem _ hy), ?_, _, rfl⟩, ?_⟩
    · rcases insR_mem.mp hy with h | rfl
      · exact j1 y h
      · exact hx
    · have := foldR_len [x] L
      simp only [List.foldl_cons, List.foldl_nil, List.length_singleton] at this
      simp only
      omega
    · have f := lcM_filT (t := pN true 10) (fb := MC4.c_begins_for_4) (f := MC4.e_begins_for_5) (p := p) (ε := [some (bdD b), some (frD V), some (frD (tot b - V)), some (.lst ((begL b V).map frD)), none, none, some (.lst ((innP (tot b - V) (begL b V)).map frD)), some (.lst (L.map frD)), some (frD x), none, none]) frD (fun y => decide (y < x)) frD L fun y hy => by
        refine ⟨_, rfl, ?_, fun _ => ?_⟩
        · have l := fun p => lessc_ok (j1 y hy) hx (by decide) p
          simp [MC4.c_begins_for_4, l]
        · simp [MC4.e_begins_for_5]
      have hfl : cntR x L ≤ L.length := List.length_filter_le _ _
      have e1 : insD (L.map frD) [.int (cntR x L : Nat), frD x] = some ((insR L x).map frD) := by
        rw [insD_ok (free_frD _) (by rw [List.length_map]; omega) (by omega) (by omega), Int.toNat_natCast]
        simp [insR]
      have e2 : insD (L.map frD) [.int (L.filter fun y => decide (y < x)).length, frD x] = some ((insR L x).map frD) := e1
      have sq : seqO (.lst (L.map frD)) = some (L.map frD) := rfl
      have lm : (L.map frD).length ≤ 10000 := by rw [List.length_map]; omega
      have ln : lenD [.lst ((L.filter fun y => decide (y < x)).map frD)] = some (.int ((L.filter fun y => decide (y < x)).length : Nat)) := by
        have := lenD_l ((L.filter fun y => decide (y < x)).map frD)
        rw [List.length_map] at this
        exact this
      refine ⟨[some (bdD b), some (frD V), some (frD (tot b - V)), some (.lst ((begL b V).map frD)), none, none, some (.lst ((innP (tot b - V) (begL b V)).map frD)), some (.lst (L.map frD)), some (frD x), none, none], _, rfl, ?_, rfl⟩
      generalize (insR L x).map frD = R at *
      generalize ((L.filter fun y => decide (y < x)).length : Nat) = cnt at *
      generalize (L.filter fun y => decide (y < x)).map frD = FL at *
      generalize L.map frD = L0 at *
      generalize (begL b V).map frD = LL at *
      generalize (innP (tot b - V) (begL b V)).map frD = II at *
      generalize bdD b = BB at *
      simp [MC4.l_begins_for_6, sq, lm, f, ln, -lenD_l, e2])).1
  have e6 : ∀ (xs : List Rat) (s : List Rat × DEnv), (xs.foldl (fun (s : List Rat × DEnv) x => (insR s.1 x, [some (frD x), none, none])) s).1 = xs.foldl insR s.1 := fun xs => by
    induction xs with
    | nil => intro s; rfl
    | cons x xs ih => intro s; rw [List.foldl_cons, List.foldl_cons, ih]
  have e6 := e6 (innP (tot b - V) (begL b V)) ([], [none, none, none])
  generalize (innP (tot b - V) (begL b V)).foldl (fun (s : List Rat × DEnv) x => (insR s.1 x, [some (frD x), none, none])) ([], [none, none, none]) = S6 at *
  have eb : S6.1 = begs b V := e6
  obtain ⟨S1, S2⟩ := S6
  simp only at eb
  subst eb
  have lI : ((innP (tot b - V) (begL b V)).map frD).length ≤ 10000 := by rw [List.length_map]; omega
  have lL : ((begL b V).map frD).length ≤ 10000 := by rw [List.length_map]; have := begL_len (V := V) hl; omega
  have fL : D.frees ((begL b V).map frD) = true := frees_map free_frD _
  have lE : (enumF 0 ((begL b V).map frD)).length ≤ 10000 := by rw [enum_frD, List.length_map, List.length_range]; have := begL_len (V := V) hl; omega
  have fI : D.frees ((innP (tot b - V) (begL b V)).map frD) = true := frees_map free_frD _
  have eL2 : (fl0 b V).map frD ++ [frD (tot b - V)] = (begL b V).map frD := by rw [← eL]; simp
  have f1 : D.free (frD (tot b - V)) = true := free_frD _
  have eE : eD = fun z : Nat × Rat => .tup [nD z.1, frD z.2] := rfl
  simp only [List.map_nil, List.cons_append, List.nil_append] at l6
  simp only [List.map_cons, List.map_nil, frD_zero] at l2
  generalize (fl0 b V).map frD = L3 at *
  generalize (begL b V).map frD = LL at *
  generalize (innP (tot b - V) (begL b V)).map frD = II at *
  generalize (begs b V).map frD = RR at *
  generalize (endsP b).map eD = EE at *
  generalize frD (tot b - V) = FF at *
  generalize bdD b = BB at *
  simp [MC4.m_begins_for, MC4.p_begins_for, MC4.r_begins_for, runV_ap, sParO2_ap, t, mi, f1, lstO_of, newL_nil, en, fE, l2, eL2, fL, s4, fI, l6, lI, lE, lL]
end
end MC

end
section
namespace MC
open PySem PySem.Spec L2 DL MW
/-- a quotient: of a small bottom again -/
theorem lat.div {N M M' : Nat} {q r : Rat} (hN : N ≠ 0) (h1 : lat N M q) (h2 : lat N M' r) (h0 : r ≠ 0) : ∃ l, l ≠ 0 ∧ l ≤ M' ∧ lat l M (q / r) := by
  obtain ⟨k, rfl, hk⟩ := h1
  obtain ⟨j, rfl, hj⟩ := h2
  have hz : ((N : Nat) : Int) ≠ 0 := by omega
  have j0 : j ≠ 0 := by
    rintro rfl
    rw [Rat.zero_divInt] at h0
    exact h0 rfl
  have e : Rat.divInt k N / Rat.divInt j N = Rat.divInt k j := by
    rw [Rat.div_def, Rat.inv_divInt, Rat.divInt_mul_divInt, Int.mul_comm (N : Int) j, Rat.divInt_mul_right hz]
  rw [e]
  refine ⟨j.natAbs, by omega, hj, ?_⟩
  rcases Int.natAbs_eq j with h | h
  · exact ⟨k, by rw [← h], hk⟩
  · exact ⟨-k, by rw [show ((j.natAbs : Nat) : Int) = -j by omega, Rat.neg_divInt_neg], by omega⟩
/-- warmths of a common bottom, too; L bounds what heats are parted by -/
structure OkW (N M K Nw Mw KH L : Nat) (b : Bd) : Prop where
  wn : Nw ≠ 0
  wl : ∀ x ∈ b, lat Nw Mw x.2
  wN : N * Nw < 2 ^ 300
  wL : 2 * (8 * ((33 * M + 2 * K) * Mw)) + KH ≤ L
  l1 : 1 ≤ L
  wB : N * L < 2 ^ 200
  wK : (100 * M + 10 * K + 1) * L < 2 ^ 200
section
variable {b : Bd} {N M K m Nw Mw KH L : Nat} {V H : Rat}
theorem mixH_latW (hN : N ≠ 0) (hW : Nw ≠ 0) {v : List Rat} (hv : ∀ q ∈ v, lat N K q) (hw : ∀ x ∈ b, lat Nw Mw x.2) (hl : b.length ≤ 8) : lat (N * Nw) (8 * (K * Mw)) (mixH b v) := by
  have h := lat.sm (N := N * Nw) (M := K * Mw) (l := (v.zip b).map fun z => z.1 * z.2.2) (Nat.mul_ne_zero hN hW) fun q hq => by
    obtain ⟨z, hz, rfl⟩ := List.mem_map.mp hq
    obtain ⟨a, c⟩ := List.of_mem_zip hz
    exact (hv _ a).mul (hw _ c)
  refine h.mono ?_
  rw [Nat.mul_comm 8]
  refine Nat.mul_le_mul_left _ ?_
  rw [List.length_map, List.length_zip]
  omega
theorem ht_lat (h : OkL N M K m b) (w : OkW N M K Nw Mw KH L b) (hl : b.length ≤ 8) {B : Rat} (hB : lat N (8 * M + K) B) (hE : lat N (8 * M + K) (B + V)) : lat (N * Nw) (8 * ((33 * M + 2 * K) * Mw)) (htB b V B) := by
  have s := stretch_lat h.n0 h.lt hl hB hE
  exact mixH_latW h.n0 w.wn (fun q hq => (s q hq).mono (by omega)) w.wl hl
theorem beg_E (h : OkL N M K m b) (hb : okB b) (hV : lat N K V) {B : Rat} (hm : B ∈ begs b V) : lat N (8 * M + K) (B + V) := by
  have hm := (begs_mem.mp hm).1
  unfold begL at hm
  rcases List.mem_append.mp hm with hm | hm
  · rcases List.mem_cons.mp hm with rfl | hm
    · rw [Rat.zero_add]; exact hV.mono (by omega)
    · obtain ⟨z, hz, hm⟩ := List.mem_flatMap.mp hm
      have e := endsP_lat h.n0 h.lt hb.1.2 hz
      simp only [List.mem_cons, List.not_mem_nil, or_false] at hm
      rcases hm with rfl | rfl
      · exact (e.add h.n0 hV).mono (by omega)
      · unfold ab
        split
        · rw [Rat.zero_add]; exact hV.mono (by omega)
        · rw [show z.2 - V + V = z.2 by grind]; exact e.mono (by omega)
  · rw [List.mem_singleton] at hm
    subst hm
    rw [show tot b - V + V = tot b by grind]
    exact (tot_lat h.n0 h.lt hb.1.2).mono (by omega)
theorem hts_lat (h : OkL N M K m b) (w : OkW N M K Nw Mw KH L b) (hb : okB b) (hV : lat N K V) {y : Rat} (hy : y ∈ hts b V) : lat (N * Nw) (8 * ((33 * M + 2 * K) * Mw)) y := by
  obtain ⟨B, hB, rfl⟩ := List.mem_map.mp hy
  exact ht_lat h w hb.1.2 (begs_lat h.n0 h.lt hb.1.2 hV hB) (beg_E h hb hV hB)
theorem OkW.szH (h : OkL N M K m b) (w : OkW N M K Nw Mw KH L b) {y : Rat} (hy : lat (N * Nw) L y) : szR 300 y :=
  hy.szR (Nat.mul_ne_zero h.n0 w.wn) w.wN (by have := Nat.le_mul_of_pos_left L (Nat.pos_of_ne_zero h.n0); have := w.wB; omega)
/-- the beginning told: of a common bottom with all flows -/
theorem begB_lat (h : OkL N M K m b) (w : OkW N M K Nw Mw KH L b) (hb : okB b) (hV : lat N K V) (h0 : 0 ≤ V) (hH : lat (N * Nw) KH H) (hc : coldP b V ≤ H) (hh : H ≤ hotP b V) (h1 : V ≤ tot b) :
    ∃ N' K', N' ≠ 0 ∧ N' < 2 ^ 200 ∧ (∃ M', (∀ x ∈ b, lat N' M' x.1) ∧ 2 * K' + 17 * M' < 2 ^ 200) ∧ lat N' K' (begB b V H) ∧ lat N' K' (begB b V H + V) ∧ lat N' K' V := by
  have l := at_lt hb h0 h1 hh
  have lb : atB b V H < (begs b V).length := by rw [← hts_len]; exact l
  have k1 := h.k1
  unfold begB
  split
  · have m := gq_mem lb
    have l1 := w.l1
    have a1 := Nat.le_mul_of_pos_right N (show 0 < L by omega)
    have a2 := Nat.le_mul_of_pos_right (100 * M + 10 * K + 1) (show 0 < L by omega)
    have a3 := w.wB
    have a4 := w.wK
    exact ⟨N, 8 * M + K, h.n0, by omega, ⟨M, h.lt, by omega⟩, begs_lat h.n0 h.lt hb.1.2 hV m, beg_E h hb hV m, hV.mono (by omega)⟩
  · rename_i n
    obtain ⟨p, q⟩ := at_pos hb h0 h1 hc hh n
    have g := at_ge hb h0 h1 hh
    have mx := gq_mem (L := begs b V) (i := atB b V H - 1) (by omega)
    have my := gq_mem lb
    have hx := hts_lat h w hb hV (gq_mem (L := hts b V) (i := atB b V H - 1) (by omega))
    have hy := hts_lat h w hb hV (gq_mem l)
    have n0 : N * Nw ≠ 0 := Nat.mul_ne_zero h.n0 w.wn
    have wL := w.wL
    obtain ⟨c, c0, c1, c2⟩ := lat.div n0 ((hH.sub n0 hx).mono (show _ ≤ L by omega)) ((hy.sub n0 hx).mono (show _ ≤ L by omega)) (by grind)
    have e : (H - gq (hts b V) (atB b V H - 1)) / (gq (hts b V) (atB b V H) - gq (hts b V) (atB b V H - 1)) = shB' b V H := rfl
    rw [e] at c2
    have lx := begs_lat h.n0 h.lt hb.1.2 hV mx
    have ly := begs_lat h.n0 h.lt hb.1.2 hV my
    have pr := c2.mul (ly.sub h.n0 lx)
    have cL : N * c ≤ N * L := Nat.mul_le_mul_left _ c1
    have hN' : N * c ≠ 0 := Nat.mul_ne_zero h.n0 c0
    have lx' := lx.up c0
    have lV' := hV.up c0
    rw [Nat.mul_comm c N] at pr
    have wK := w.wK
    have wB := w.wB
    have q1 : (8 * M + K) * c ≤ (8 * M + K) * L := Nat.mul_le_mul_left _ c1
    have q2 : K * c ≤ K * L := Nat.mul_le_mul_left _ c1
    have q3 : M * c ≤ M * L := Nat.mul_le_mul_left _ c1
    have eK : (8 * M + K) * L = 8 * (M * L) + K * L := by rw [Nat.add_mul, Nat.mul_assoc]
    have eL : L * (8 * M + K + (8 * M + K)) = 16 * (M * L) + 2 * (K * L) := by
      rw [show 8 * M + K + (8 * M + K) = 16 * M + 2 * K by omega, Nat.mul_comm L, Nat.add_mul, Nat.mul_assoc, Nat.mul_assoc]
    have eW : (100 * M + 10 * K + 1) * L = 100 * (M * L) + 10 * (K * L) + L := by rw [Nat.add_mul, Nat.add_mul, Nat.mul_assoc, Nat.mul_assoc, Nat.one_mul]
    have lB := lx'.add hN' pr
    refine ⟨N * c, 24 * (M * L) + 4 * (K * L), hN', by omega, ⟨M * c, fun x hx => (h.lt x hx).up c0, by omega⟩, lB.mono (by omega), (lB.add hN' lV').mono (by omega), lV'.mono (by omega)⟩
theorem gql (v : List Rat) {k : Nat} (h : k < v.length) : ixD (.lst (v.map frD)) (.int (k : Nat)) = some (frD (gq v k)) := by
  obtain ⟨x, e1, e2⟩ := atI_nat (l := v.map frD) (i := (k : Nat)) (by omega) (by rw [List.length_map]; omega)
  rw [Int.toNat_natCast, List.getElem?_map, gq_get h] at e2
  cases e2
  exact e1
theorem eq_frD (neg : Bool) (x y : Rat) : eqD neg (frD x) (frD y) = some (.bl (if neg then !decide (x = y) else decide (x = y))) := by
  rw [eqD_eq _ _ _ (by rw [sh_frD, sh_frD]; rfl), eqv_frD']
theorem beginfor_ok (h : OkL N M K m b) (w : OkW N M K Nw Mw KH L b) (hb : okB b) (hV : lat N K V) (h0 : 0 ≤ V) (hH : lat (N * Nw) KH H) (hc : coldP b V ≤ H) (hh : H ≤ hotP b V) (h1 : V ≤ tot b) (p : Pool) :
    MC4.m_begin_for [bdD b, frD V, frD H] p = .ok (frD (begB b V H)) p := by
  have l := at_lt hb h0 h1 hh
  have lb : atB b V H < (begs b V).length := by rw [← hts_len]; exact l
  have k1 := h.k1
  have wL := w.wL
  have bf := beginsfor_ok h hb hV p
  have n0 : N * Nw ≠ 0 := Nat.mul_ne_zero h.n0 w.wn
  have zH : szR 300 H := w.szH h (hH.mono (by omega))
  have zh : ∀ y ∈ hts b V, szR 300 y := fun y hy => w.szH h ((hts_lat h w hb hV hy).mono (by omega))
  have zb : ∀ y ∈ begs b V, szR 300 y := fun y hy => (begs_lat h.n0 h.lt hb.1.2 hV hy).szR h.n0 h.n1 (by omega)
  have bl := begs_len (V := V) hb.1.2
  have s2 := lcM_mapT (t := pN false 7) (f := MC4.e_begin_for_1) (p := p) (ε := [some (bdD b), some (frD V), some (frD H), some (.lst ((begs b V).map frD)), none, none, none, none, none]) frD (fun B => frD (htB b V B)) (begs b V) fun B hB => by
    have e := heatat_ok h hb (begs_lat h.n0 h.lt hb.1.2 hV hB) (beg_E h hb hV hB) hV
    have e2 : mixH b (stretchP b B (B + V)) = htB b V B := rfl
    rw [e2] at e
    refine ⟨_, rfl, ?_⟩
    generalize bdD b = BB at *
    simp [MC4.e_begin_for_1, e]
  rw [show (begs b V).map (fun B => frD (htB b V B)) = (hts b V).map frD by unfold hts; rw [List.map_map]; rfl] at s2
  have s3 := lcM_filT (t := pN false 8) (fb := MC4.c_begin_for_2) (f := MC4.e_begin_for_3) (p := p) (ε := [some (bdD b), some (frD V), some (frD H), some (.lst ((begs b V).map frD)), some (.lst ((hts b V).map frD)), none, none, none, none]) frD (fun y => decide (y < H)) frD (hts b V) fun y hy => by
    refine ⟨_, rfl, ?_, fun _ => ?_⟩
    · have l := fun p => lessc_ok (zh y hy) zH (by decide) p
      simp [MC4.c_begin_for_2, l]
    · simp [MC4.e_begin_for_3]
  have ln : lenD [.lst (((hts b V).filter fun y => decide (y < H)).map frD)] = some (.int (atB b V H : Nat)) := by
    have := lenD_l (((hts b V).filter fun y => decide (y < H)).map frD)
    rw [List.length_map] at this
    exact this
  have lB : ((begs b V).map frD).length ≤ 10000 := by rw [List.length_map]; omega
  have lH : ((hts b V).map frD).length ≤ 10000 := by rw [List.length_map, hts_len]; omega
  have i1 := gql (hts b V) l
  have i2 := gql (begs b V) lb
  have q1 := eq_frD false (gq (hts b V) (atB b V H)) H
  unfold begB
  split
  · rename_i e
    rw [e] at q1 i1
    simp only [if_false, Bool.false_eq_true, decide_true] at q1
    generalize atB b V H = at' at *
    generalize (((hts b V).filter fun y => decide (y < H)).map frD) = FL at *
    generalize (begs b V).map frD = BL at *
    generalize (hts b V).map frD = HL at *
    generalize bdD b = BB at *
    simp [MC4.m_begin_for, MC4.b_begin_for, runB_ap, bf, s2, s3, ln, -lenD_l, i1, i2, q1, lB, lH]
  · rename_i n
    obtain ⟨a1, q⟩ := at_pos hb h0 h1 hc hh n
    have g := at_ge hb h0 h1 hh
    have mx := gq_mem (L := begs b V) (i := atB b V H - 1) (by omega)
    have my := gq_mem lb
    have hx := hts_lat h w hb hV (gq_mem (L := hts b V) (i := atB b V H - 1) (by omega))
    have hy := hts_lat h w hb hV (gq_mem l)
    have i3 := gql (hts b V) (k := atB b V H - 1) (by omega)
    have i4 := gql (begs b V) (k := atB b V H - 1) (by omega)
    have ea : ((atB b V H - 1 : Nat) : Int) = (atB b V H : Int) - 1 := by omega
    rw [ea] at i3 i4
    rw [decide_eq_false n] at q1
    simp only [if_false, Bool.false_eq_true] at q1
    have hHL : lat (N * Nw) L (H - gq (hts b V) (atB b V H - 1)) := (hH.sub n0 hx).mono (by omega)
    have hDL : lat (N * Nw) L (gq (hts b V) (atB b V H) - gq (hts b V) (atB b V H - 1)) := (hy.sub n0 hx).mono (by omega)
    obtain ⟨c, c0, c1, c2⟩ := lat.div n0 hHL hDL (by grind)
    have LN : L < 2 ^ 300 := by have := Nat.le_mul_of_pos_left L (Nat.pos_of_ne_zero h.n0); have := w.wB; omega
    have m1 := fun p => minus_ok zH (zh _ (gq_mem (L := hts b V) (i := atB b V H - 1) (by omega))) (by decide) p
    have m2 := fun p => minus_ok (zh _ (gq_mem l)) (zh _ (gq_mem (L := hts b V) (i := atB b V H - 1) (by omega))) (by decide) p
    have m3 := fun p => overc_ok (n := 300) (w.szH h hHL) (w.szH h hDL) (by decide) (by grind) p
    have m4 := fun p => minus_ok (zb _ my) (zb _ mx) (by decide) p
    have e : (H - gq (hts b V) (atB b V H - 1)) / (gq (hts b V) (atB b V H) - gq (hts b V) (atB b V H - 1)) = shB' b V H := rfl
    rw [e] at c2 m3
    have zs : szR 700 (shB' b V H) := (c2.szR (n := 300) c0 (by omega) LN).mono (by decide)
    have zd : szR 700 (gq (begs b V) (atB b V H) - gq (begs b V) (atB b V H - 1)) := (szR_sub (zb _ my) (zb _ mx)).mono (by decide)
    have m5 := fun p => times_ok zs zd (by decide) p
    have m6 := fun p => plus_ok (n := 1500) ((zb _ mx).mono (by decide)) ((szR_mul zs zd).mono (by decide)) (by decide) p
    generalize shB' b V H = ss at *
    generalize gq (hts b V) (atB b V H - 1) = hx' at *
    generalize gq (hts b V) (atB b V H) = hy' at *
    generalize gq (begs b V) (atB b V H - 1) = bx' at *
    generalize gq (begs b V) (atB b V H) = by' at *
    generalize atB b V H = at' at *
    generalize (((hts b V).filter fun y => decide (y < H)).map frD) = FL at *
    generalize (begs b V).map frD = BL at *
    generalize (hts b V).map frD = HL at *
    generalize bdD b = BB at *
    simp [MC4.m_begin_for, MC4.b_begin_for, runB_ap, bf, s2, s3, ln, -lenD_l, i1, i2, i3, i4, q1, lB, lH, m1, m2, m3, m4, m5, m6, n]
end
end MC

end
section
namespace MC
open PySem PySem.Spec L2 DL MW
section
variable {b : Bd} {N M K m Nw Mw KH L : Nat} {V H : Rat}
theorem givesby_ok (h : OkL N M K m b) (hb : okB b) (hV : lat N K V) {n : Nat} (hH : szR n H) (hn : n ≤ 4000) (p : Pool) : MC.m_does_give_by [bdD b, mxD (V, H)] p = .ok (.bl (gives b V H)) p := by
  have t := totalof_ok h.sz hb.1.2 (by have := h.m1; omega) p
  have l := lessc_ok (h.szT hb.1.2) (h.szV hV) (by decide) p
  have z := szR_cold h hb hV
  have m1 := h.m1
  have l1 := lessc_ok (n := 4000) (hH.mono hn) (z.1.mono (by omega)) (by decide) p
  have l2 := lessc_ok (n := 4000) (z.2.mono (by omega)) (hH.mono hn) (by decide) p
  have hs := heatsat_ok h hb hV p
  simp only [mxD] at hs ⊢
  generalize bdD b = BB at *
  by_cases c : tot b < V
  · have e : gives b V H = false := by
      unfold gives
      rw [decide_eq_false (by grind), Bool.false_and]
    rw [e]
    simp [MC.m_does_give_by, MC.b_does_give_by, runB_ap, t, l, c]
  · have e : gives b V H = ((!decide (H < coldP b V)) && (!decide (hotP b V < H))) := by
      unfold gives
      rw [decide_eq_true (show V ≤ tot b by grind), Bool.true_and, nlt, nlt]
    rw [e]
    simp [MC.m_does_give_by, MC.b_does_give_by, runB_ap, t, l, c, hs, l1, l2]
    by_cases c1 : H < coldP b V <;> simp [c1]
def plS (b : Bd) (V H : Rat) : List Rat := stretchP b (begB b V H) (begB b V H + V)
theorem plS_ok (h : OkL N M K m b) (w : OkW N M K Nw Mw KH L b) (hb : okB b) (hV : lat N K V) (h0 : 0 ≤ V) (hH : lat (N * Nw) KH H) (hg : gives b V H = true) :
    okS b (plS b V H) ∧ mixP b (plS b V H) = (V, H) ∧ prtN b (plS b V H) ≤ 2 ∧ ∀ q ∈ plS b V H, szR 200 q := by
  obtain ⟨h1, hc, hh⟩ := (gives_iff b V H).mp hg
  obtain ⟨p1, p2, p3⟩ := begB_ok hb h0 h1 hc hh
  refine ⟨stretch_okS hb.2, ?_, stretch_plain hb.2 (by grind), fun q hq => ?_⟩
  · unfold mixP plS
    rw [stretch_vol hb.2 p1 (by grind) (by grind)]
    have e : mixH b (stretchP b (begB b V H) (begB b V H + V)) = H := p3
    rw [e, show begB b V H + V - begB b V H = V by grind]
  · obtain ⟨N', K', n0, n1, ⟨M', f1, f2⟩, g1, g2, g3⟩ := begB_lat h w hb hV h0 hH hc hh h1
    exact (stretch_lat n0 f1 hb.1.2 g1 g2 q hq).szR n0 n1 f2
theorem plainset_ok (h : OkL N M K m b) (w : OkW N M K Nw Mw KH L b) (hb : okB b) (hV : lat N K V) (h0 : 0 ≤ V) (hH : lat (N * Nw) KH H) (p : Pool) :
    MC4.m_plain_setting [bdD b, mxD (V, H)] p = .ok (if gives b V H = true then stD (plS b V H) else .non) p := by
  have wL := w.wL
  have zH : szR 300 H := w.szH h (hH.mono (by omega))
  have cm := checkmix_ok (x := (V, H)) h0 p
  have cb := checkB_ok hb h.sz200 p
  have gv := givesby_ok h hb hV zH (by decide) p
  cases hg : gives b V H with
  | false =>
    rw [hg] at gv
    generalize bdD b = BB at *
    generalize mxD (V, H) = XX at *
    simp [MC4.m_plain_setting, MC4.b_plain_setting, MC.m_check_mixed, MC.b_check_mixed, MC4.m_setting_by, MC4.b_setting_by, runB_ap, cm, cb, gv]
  | true =>
    rw [hg] at gv
    obtain ⟨h1, hc, hh⟩ := (gives_iff b V H).mp hg
    obtain ⟨N', K', n0, n1, ⟨M', f1, f2⟩, g1, g2, g3⟩ := begB_lat h w hb hV h0 hH hc hh h1
    have s := stretchat_ok n0 f1 h.sz hb.1.2 (by have := h.m1; omega) (Nat.lt_trans n1 (by decide)) g1 g2 g3 (Nat.lt_trans f2 (by decide)) p
    have e : stretchP b (begB b V H) (begB b V H + V) = plS b V H := rfl
    rw [e] at s
    have bf := beginfor_ok h w hb hV h0 hH hc hh h1 p
    have i0 : ixD (mxD (V, H)) (.int 0) = some (frD V) := ixT0 _ _
    have i1 : ixD (mxD (V, H)) (.int 1) = some (frD H) := ixT1 _ _ _
    generalize begB b V H = B' at *
    generalize stD (plS b V H) = SS at *
    generalize bdD b = BB at *
    generalize mxD (V, H) = XX at *
    simp [MC4.m_plain_setting, MC4.b_plain_setting, MC.m_check_mixed, MC.b_check_mixed, MC4.m_setting_by, MC4.b_setting_by, runB_ap, cm, cb, gv, bf, s, i0, i1]
theorem isplain_ok (hb : okB b) (hs : szB 200 b) {v : List Rat} {n : Nat} (hc : ∀ p, MC.m_check_set [bdD b, stD v] p = .ok .non p) (h : okS b v) (p : Pool) : MC4.m_is_plain [bdD b, stD v] p = .ok (.bl (decide (prtN b v ≤ 2))) p := by
  have l := lcM_filT (t := pT [pN false 3, pT [pN false 4, pN false 5]]) (fb := MC4.c_is_plain_1) (f := MC4.e_is_plain_2) (p := p) (ε := [some (bdD b), some (stD v), none, none, none, none]) (fun z : Rat × Rat × Rat => .tup [frD z.1, tapD z.2]) (fun z => prt z.1 z.2.1) (fun _ => .int 1) (v.zip b) fun z hz => by
    have hin : inD true (frD z.1) (.tup [frD 0, frD z.2.1]) = some (.bl (prt z.1 z.2.1)) := by
      unfold inD
      simp only
      rw [if_pos (by simp)]
      unfold prt
      simp [eq_comm]
    refine ⟨[some (bdD b), some (stD v), none, some (frD z.1), some (frD z.2.1), some (frD z.2.2)], rfl, ?_, fun _ => ?_⟩
    · rw [frD_zero] at hin
      generalize bdD b = BB at *
      generalize stD v = SS at *
      simp [MC4.c_is_plain_1, tupO_of, hin]
    · simp [MC4.e_is_plain_2]
  have hc := hc p
  have e1 : zipD [stD v, bdD b] = some ((v.zip b).map fun z : Rat × Rat × Rat => .tup [frD z.1, tapD z.2]) := by
    unfold stD bdD
    rw [← zip_map]; rfl
  have ll : ((v.zip b).map fun z : Rat × Rat × Rat => D.tup [frD z.1, tapD z.2]).length ≤ 10000 := by
    rw [List.length_map, List.length_zip]
    have := hb.1.2
    omega
  have ln : lenD [.lst (((v.zip b).filter fun z => prt z.1 z.2.1).map fun _ => .int 1)] = some (.int (prtN b v : Nat)) := by
    have := lenD_l (((v.zip b).filter fun z => prt z.1 z.2.1).map fun _ => D.int 1)
    rw [List.length_map] at this
    exact this
  generalize prtN b v = k at *
  generalize (((v.zip b).filter fun z => prt z.1 z.2.1).map fun _ => D.int 1) = FL at *
  generalize ((v.zip b).map fun z : Rat × Rat × Rat => D.tup [frD z.1, tapD z.2]) = ZL at *
  generalize bdD b = BB at *
  generalize stD v = SS at *
  simp [MC4.m_is_plain, MC4.b_is_plain, runB_ap, hc, e1, ll, l, ln, -lenD_l]
  omega
theorem issetting_ok (hb : okB b) (hs : szB 200 b) {v : List Rat} (hv : ∀ q ∈ v, szR 200 q) (h : okS b v) (p : Pool) : MC4.m_is_setting [bdD b, stD v] p = .ok (.bl true) p := by
  have w := wrongin_ok hb hs hv h
  have cb := checkB_ok hb hs p
  generalize bdD b = BB at *
  generalize stD v = SS at *
  have e : eqD false (.lst []) (.lst []) = some (.bl true) := rfl
  simp [MC4.m_is_setting, MC4.b_is_setting, MW.m_is_setting_of, MW.b_is_setting_of, runB_ap, cb, w, lstO_of, e]
end
end MC

end
section
namespace MC5
open PySem PySem.Spec L2 DL
def l_bars_of_1 : DEnv → M Fl :=
  (sMu extD 1 (dCons (dA lstO (dCons (dA tupO (dCons (dC (.str "above")) (dCons (dVar 3) dNil))) (dCons (dA tupO (dCons (dC (.str "below")) (dCons (dVar 3) dNil))) dNil))) dNil))
def p_bars_of : List (DEnv → M Fl) := [(sSet false 1 (dNewL (dA lstO (dCons (dA tupO (dCons (dC (.str "volume")) dNil)) dNil)))),
  (sFor (iSeq (dVar 0)) (pT [(pN true 2), (pN true 3)]) [2, 3] l_bars_of_1)]
def r_bars_of : DEnv → M D := (dVar 1)
def m_bars_of : List D → M D := runV p_bars_of r_bars_of 4
def b_is_text : DEnv → M Fl :=
  (sRet (d1 (isD "str") (dVar 0)))
def m_is_text : List D → M D := runB b_is_text 1
def b_is_named : DEnv → M Fl :=
  (sRet (dAndV (d1 (isD "str") (dVar 0)) (d2 (inD false) (dVar 0) (dVar 1))))
def m_is_named : List D → M D := runB b_is_named 2
def b_is_bar : DEnv → M Fl :=
  (sSeq (sIf (dB (dCall 2 MW.m_is_tuple_of (dCons (dVar 0) (dCons (dC (.int 1)) dNil)))) (sRet (dAndV (dCall 1 MC5.m_is_text (dCons (d2 ixD (dVar 0) (dC (.int 0))) dNil)) (d2 (eqD false) (d2 ixD (dVar 0) (dC (.int 0))) (dC (.str "volume"))))) sNil) (sRet (dAndV (dCall 1 MW.m_is_pair (dCons (dVar 0) dNil)) (dAndV (dCall 2 MC5.m_is_named (dCons (d2 ixD (dVar 0) (dC (.int 0))) (dCons (dA tupO (dCons (dC (.str "above")) (dCons (dC (.str "below")) dNil))) dNil))) (dCall 1 MW.m_is_fraction_of (dCons (d2 ixD (dVar 0) (dC (.int 1))) dNil))))))
def m_is_bar : List D → M D := runB b_is_bar 1
def b_does_bar_by : DEnv → M Fl :=
  (sSeq (sIf (dNot (dB (dCall 1 MC5.m_is_bar (dCons (dVar 2) dNil)))) (sRet (dC (.bl false))) sNil) (sSeq (sAsg (pT [(pN false 3), (pN false 4)]) (dVar 1)) (sSeq (sIf (dB (d2 (eqD false) (d2 ixD (dVar 2) (dC (.int 0))) (dC (.str "volume")))) (sRet (dCall 2 MW.m_is_less (dCons (dCall 1 MC.m_total_of (dCons (dVar 0) dNil)) (dCons (dVar 3) dNil)))) sNil) (sSeq (sSet false 5 (dCall 2 MC.m_minus (dCons (dVar 4) (dCons (dCall 2 MC.m_times (dCons (d2 ixD (dVar 2) (dC (.int 1))) (dCons (dVar 3) dNil))) dNil)))) (sSeq (sIf (dB (d2 (eqD false) (d2 ixD (dVar 2) (dC (.int 0))) (dC (.str "above")))) (sRet (dCall 2 MW.m_is_less (dCons (dCall 2 MC.m_excess_of (dCons (dVar 0) (dCons (d2 ixD (dVar 2) (dC (.int 1))) dNil))) (dCons (dVar 5) dNil)))) sNil) (sRet (dCall 2 MW.m_is_less (dCons (dCall 2 MC.m_lack_of (dCons (dVar 0) (dCons (d2 ixD (dVar 2) (dC (.int 1))) dNil))) (dCons (dCall 2 MC.m_minus (dCons (dC (.tup [(.int 0), (.int 1)])) (dCons (dVar 5) dNil))) dNil)))))))))
def m_does_bar_by : List D → M D := runB b_does_bar_by 6
def c_bar_by_1 : DEnv → M Bool :=
  (dB (dCall 3 MC5.m_does_bar_by (dCons (dVar 0) (dCons (dVar 1) (dCons (dVar 3) dNil)))))
def e_bar_by_2 : DEnv → M D :=
  (dVar 3)
def b_bar_by : DEnv → M Fl :=
  (sSeq (sSet false 2 (dLc (iSeq (dCall 1 MC5.m_bars_of (dCons (dVar 0) dNil))) [3] (pN false 3) c_bar_by_1 e_bar_by_2)) (sRet (dIte (dB (d2 (eqD true) (dVar 2) (dA lstO dNil))) (d2 ixD (dVar 2) (dC (.int 0))) (dC .non))))
def m_bar_by : List D → M D := runB b_bar_by 4
def b_bar_for : DEnv → M Fl :=
  (sSeq (sDrop (dCall 2 MC.m_check_mixed (dCons (dVar 0) (dCons (dVar 1) dNil)))) (sRet (dCall 2 MC5.m_bar_by (dCons (dVar 0) (dCons (dVar 1) dNil)))))
def m_bar_for : List D → M D := runB b_bar_for 2
def b_does_bar : DEnv → M Fl :=
  (sSeq (sDrop (dCall 2 MC.m_check_mixed (dCons (dVar 0) (dCons (dVar 1) dNil)))) (sRet (dCall 3 MC5.m_does_bar_by (dCons (dVar 0) (dCons (dVar 1) (dCons (dVar 2) dNil))))))
def m_does_bar : List D → M D := runB b_does_bar 3
def b_setting_for : DEnv → M Fl :=
  (sSeq (sDrop (dCall 2 MC.m_check_mixed (dCons (dVar 0) (dCons (dVar 1) dNil)))) (sRet (dCall 2 MC4.m_setting_by (dCons (dVar 0) (dCons (dVar 1) dNil)))))
def m_setting_for : List D → M D := runB b_setting_for 2
def b__law_greater : DEnv → M Fl :=
  (sRet (dIte (dB (dCall 2 MW.m__law_below (dCons (dVar 0) (dCons (dVar 1) dNil)))) (dVar 1) (dVar 0)))
def m__law_greater : List D → M D := runB b__law_greater 2
def e__law_excess_1 : DEnv → M D :=
  (dCall 2 MW.m__law_times (dCons (dVar 2) (dCons (dCall 2 MC5.m__law_greater (dCons (dA tupO (dCons (dC (.int 0)) (dCons (dC (.int 1)) dNil))) (dCons (dCall 2 MW.m__law_minus (dCons (dVar 3) (dCons (dVar 1) dNil))) dNil))) dNil)))
def b__law_excess : DEnv → M Fl :=
  (sRet (dCall 1 MC.m__law_sum (dCons (dLc (iSeq (dVar 0)) [2, 3] (pT [(pN false 2), (pN false 3)]) dYes e__law_excess_1) dNil)))
def m__law_excess : List D → M D := runB b__law_excess 4
def e__law_lack_1 : DEnv → M D :=
  (dCall 2 MW.m__law_times (dCons (dVar 2) (dCons (dCall 2 MC5.m__law_greater (dCons (dA tupO (dCons (dC (.int 0)) (dCons (dC (.int 1)) dNil))) (dCons (dCall 2 MW.m__law_minus (dCons (dVar 1) (dCons (dVar 3) dNil))) dNil))) dNil)))
def b__law_lack : DEnv → M Fl :=
  (sRet (dCall 1 MC.m__law_sum (dCons (dLc (iSeq (dVar 0)) [2, 3] (pT [(pN false 2), (pN false 3)]) dYes e__law_lack_1) dNil)))
def m__law_lack : List D → M D := runB b__law_lack 4
end MC5

end
section
namespace DL
open PySem PySem.Spec L2
/-- two lists put together: a new one -/
def addL : D → D → Option D
  | .lst a, .lst b => if a.length + b.length ≤ 10000 then some (.lst (a ++ b)) else none
  | _, _ => none
@[simp] theorem addL_l (a b : List D) : addL (.lst a) (.lst b) = if a.length + b.length ≤ 10000 then some (.lst (a ++ b)) else none := rfl
theorem pdn_add {X : Cx} {W : WX} {own : List Nat} {a b : Expr} {pos : Pos} {f g : DEnv → M D} (ha : PD X W own a f) (hb : PD X W own b g) : PDN X W own (.BinOp a .Add b pos) (d2 addL f g) := (pe_op op_add4 ha hb).imp fun σ H Q ⟨P, ε, p, rel, q⟩ => by
  refine tD.seq (k := fun x ε => g ε >>= fun y => liftO (addL x y)) rel q fun x vx H1 p1 k1 r1 rx q1 => ?_
  refine tD.seq (k := fun y _ => liftO (addL x y)) r1 q1 fun y vy H2 p2 k2 r2 ry q2 => ?_
  obtain ⟨d, e, q3⟩ := Post.lift q2
  have rx2 : Rep P.g (L0 P) H2 x vx := Rep.mono (k2.weak fun q h => .inr h) (fun _ h => .inl h) x vx rx
  cases x <;> cases y <;> simp only [addL] at e <;> first | cases e | skip
  rename_i xs ys
  split at e
  · rename_i hl
    cases e
    unfold Rep at rx2 ry
    obtain ⟨p, vs, rfl, t1, s1⟩ := rx2
    obtain ⟨p', ws, rfl, t2, s2⟩ := ry
    have := line10
    have l1 := s1.length
    have l2 := s2.length
    refine .inr (.inr (.inl ⟨p, p', vs, ws, rfl, rfl, t1.2, t2.2, by omega, fun t ht => ?_⟩))
    have kk := k1.trans k2
    exact q3 _ _ (kk.trans (Kp.new ht)) (r2.pool.kp (same_new ht)) (r2.back kk ht) (Rep.lst_new r2.there ht (s1.append s2))
  · cases e
end DL

end
section
namespace PySem
namespace LowG
open PySem.W PySem.Calls PyProof.Rows PySem.HandSPX
/-! ### the text of __init__ -/
def iA (p1 p2 : Pos) : Arguments := { posonlyargs := [], args := [{ arg := "self", annotation := none, pos := p1 }, { arg := "given", annotation := none, pos := p2 }], vararg := none, kwonlyargs := [], kw_defaults := [], kwarg := none, defaults := [] }
def iB (q1 q2 q3 q4 : Pos) : List Stmt := [.Assign [.Attribute (.Name "self" q1) "given" q2] (.Name "given" q3) q4]
def iS : Scope := { kind := .function, names := [(PySem.Str.ofString "self", .local), (PySem.Str.ofString "given", .local)], isGenerator := false, isCoroutine := false, more := [] }
/-- what the written part says of Low, at C, and of its __init__, at fI -/
structure LowTxt (cn qn : Str) (K : Frag) (mg : Str → Option Value) (C fI : Addr) : Prop where
  gC : mg cn = some (.ref C)
  cls : ∃ nm q N bs bm sn sub ab col dd k0 k1 k2 k3 k5, K.lookup C = some (excClassObj nm q C N bs bm true sn sub ab col dd k0 k1 k2 k3 k5 "ValueError.__new__") ∧ refsVE bm = true
  sa : findIn K (.ref C) "__setattr__" = some (some (.builtin "object.__setattr__"))
  ga : findIn K (.ref C) "__getattribute__" = some (some (.builtin "BaseException.__getattribute__"))
  gg : findIn K (.ref C) "__getattr__" = some none
  noN : findIn K (.ref C) "given" = some none
  iC : findIn K (.ref C) "__init__" = some (some (.ref fI))
  tC : typeIn K (.ref fI) = some (.type "function")
  kC : keepIn K (.ref C) = true
  exC : subIn K (.ref C) (.type "BaseException") = some true
  tyC : typeIn K (.ref C) = some (.type "type")
  hdC : hasDictIn K C = true
  fn : ∃ (oc : Value) (od : Option Addr) (doc pm : Value) (an : Option Addr) (cdv ct : Value) (osl : Array (Option Value)) (p1 p2 q1 q2 q3 q4 : Pos),
    K.lookup fI = some ⟨oc, od, .func (fnOf "__init__" qn (iA p1 p2) (iB q1 q2 q3 q4) iS .none .none doc pm an cdv ct), osl⟩ ∧ codeIn K cdv qn = true
theorem one_size (v : Value) : [v].length ≤ sizeLine := by
  rw [sizeLine_eq]
  exact (by decide : 1 ≤ 16777216)
theorem kept_but {K : Frag} {h h' : Heap} {x : Addr} (X : K.In h) (hx : K.lookup x = none) (k : ∀ b o, b ≠ x → h.get? b = some o → h'.get? b = some o) : K.In h' := fun a o e =>
  k a o (fun z => by rw [z, hx] at e; cases e) (X a o e)
theorem ldC {M : Model} {s : Shared} {name : Str} {scope : Scope} {L a : Addr} {cd : Value} {m : Str → Option Value} {x : Str} {pos : Pos} {v : Value} {Q : Value → Shared → Prop} {A : Around} {E : Value → Shared → Prop} (hn : s.heap.Ns L m) (hv : m x = some v) (h : Q v s)
    (hk : scope.kind = .function := by rfl) (hl : (envOfC name scope L a cd).kindOf x = some .local := by rfl) (hd : (x == ("__debug__" : Str)) = false := by decide) :
    wpAny M A (eval (.Name x pos) (envOfC name scope L a cd)) Q E s := wpAny_Name (wpAny_loadName_local hk hl hn hv h) hd
/-- what __init__ leaves of a fresh exception at x -/
structure InitEnd (h h' : Heap) (x C dx t1 : Addr) (v : Value) : Prop where
  keep : ∀ b o, b ≠ x → h.get? b = some o → h'.get? b = some o
  obj : h'.get? x = some { cls := .ref C, dict := some dx, data := .fields #[.ref t1, .none, .none, .none, .bool false, .none] }
  dbig : h.objs.size ≤ dx
  dne : dx ≠ x
  ns : h'.Ns1 dx (fun y => if y = "given" then some v else none)
/-- a made Low -/
structure OwnMade (h h' : Heap) (e C d : Addr) (v : Value) : Prop where
  keep : ∀ b o, h.get? b = some o → h'.get? b = some o
  new : h.objs.size ≤ e
  obj : ∃ oe vs, h'.get? e = some oe ∧ oe.cls = .ref C ∧ oe.dict = some d ∧ oe.data = .fields vs ∧ vs[1]? = some .none
  dbig : h.objs.size ≤ d
  dne : d ≠ e
  ns : h'.Ns1 d (fun y => if y = "given" then some v else none)
section
variable {cn qn : Str} {prog : Program} {w : World} {A : Around} {E : Value → Shared → Prop} {R : Result → Shared → Prop} {s : Shared} {K : Frag} {mg : Str → Option Value} {C fI : Addr}
theorem low_init (T : LowTxt cn qn K mg C fI) {x t0 : Addr} {v : Value} (X : K.In s.heap) (hlim : s.heap.NoLimit) (hx : s.heap.get? x = some (excO C t0)) (hnx : K.lookup x = none) (hroom : A.depth < recursionLimit)
    (hq : ∀ h' tk dx, InitEnd s.heap h' x C dx t0 v → R (.ok (.ret .none)) { s with heap := h', toks := tk }) :
    codeAny (model prog w) A (.call (.ref fI) ⟨[.ref x, v], []⟩) R s := by
  obtain ⟨oc, od, doc, pm, an, cdv, ct, osl, p1, p2, q1, q2, q3, q4, ho, hcd⟩ := T.fn
  obtain ⟨nm, q, N, bs, bm, sn, sub, ab, col, dd, k0, k1, k2, k3, k5, hC, hbm⟩ := T.cls
  have hcl : clsIn K C = some { name := nm, bases := bs, mro := .ref C :: bm, ns := N, qualname := q, hasDict := true, slotNames := sn, subclasses := sub, abstract := ab, collection := col, hasDel := false } := by unfold clsIn; rw [hC] <;> rfl
  refine Att.call_fn (binds := [("self", .ref x), ("given", v)]) X hlim ho hcd hroom (BindsTo.of_eq (by first | rfl | with_unfolding_all rfl)) (by first | rfl | decide | with_unfolding_all rfl) (fun s₁ IC => ?_) rfl rfl rfl
  obtain ⟨h₁, tk₁, rfl⟩ := IC.toInCall.same
  have k : ∀ b o, s.heap.get? b = some o → h₁.get? b = some o := IC.toInCall.keep
  have hn := IC.toInCall.ns
  have hxL : s.heap.objs.size ≠ x := Nat.ne_of_gt (Heap.lt_size hx)
  have X₁ : K.In h₁ := X.keeps k
  have hx₁ := k _ _ hx
  -- self.by = by
  show wpAny _ _ (execs _ _) _ _ _
  refine wpAny_execs_cons (plainObj_wpAny_Assign_Attribute ?_)
  refine ldC (v := v) hn (by first | rfl | with_unfolding_all rfl | kernel_rfl) (ldC (v := .ref x) hn (by first | rfl | with_unfolding_all rfl | kernel_rfl) ?_)
  refine set_plain X₁ (ox := excO C t0) (od := none) ⟨hx₁, rfl, rfl, trivial⟩ T.sa ?_
  refine exc_osa X₁ hx₁ hcl (show refsVE (.ref C :: bm) = true from hbm) rfl T.noN (fun h₃ tk₃ dx k₃ dn dne hx₃ hn₃ => ?_)
  show wpAny _ _ (execs _ _) _ _ _
  have z : s.heap.objs.size < h₁.objs.size := hn.lt
  exact wpAny_execs_nil (hq h₃ tk₃ dx ⟨fun b o hb e => k₃ b o hb (k b o e), hx₃, Nat.le_of_lt (Nat.lt_of_lt_of_le z dn), dne, hn₃⟩)
theorem low_made (T : LowTxt cn qn K mg C fI) {v : Value} (X : K.In s.heap) (hlim : s.heap.NoLimit) (hroom : A.depth + 1 < recursionLimit)
    (hq : ∀ h' tk e d, OwnMade s.heap h' e C d v → R (.ok (.ret (.ref e))) { s with heap := h', toks := tk }) :
    codeAny (model prog w) A (.call (.ref C) ⟨[v], []⟩) R s := by
  obtain ⟨nm, q, N, bs, bm, sn, sub, ab, col, dd, k0, k1, k2, k3, k5, hC, hbm⟩ := T.cls
  obtain ⟨hp, g, dr, tk, os⟩ := s
  have k : ∀ b o, hp.get? b = some o → ((hp.push (kdv_tup [v])).push (excO C hp.objs.size)).get? b = some o := fun b o e => Heap.get?_push_of_some _ (Heap.get?_push_of_some _ e)
  have hget : ((hp.push (kdv_tup [v])).push (excO C hp.objs.size)).get? (hp.objs.size + 1) = some (excO C hp.objs.size) := by heap_get
  have hnx : K.lookup (hp.objs.size + 1) = none := by
    cases e : K.lookup (hp.objs.size + 1) with
    | none => rfl
    | some o =>
      have z : hp.get? (hp.objs.size + 1) = some o := X _ _ e
      exact absurd (Nat.lt_of_succ_lt (Heap.lt_size z)) (Nat.lt_irrefl _)
  refine call_own F.excBase_ValueError (fun X => refsVE_contains X bm hbm) (X _ _ hC) (looks_findIn X T.iC) (fun self => bind_fn X self T.tC) (one_size v) ?_
  refine low_init (s := ⟨(hp.push (kdv_tup [v])).push (excO C hp.objs.size), g, dr, tk, os⟩) T (X.keeps k) (hlim.keeps k) hget hnx ?_ fun h' tk' dx ⟨k', hx, dn, dne, hns⟩ => ?_
  · show A.depth + 1 < recursionLimit
    exact hroom
  · have old : ∀ b o, hp.get? b = some o → h'.get? b = some o := fun b o e => k' b o (Nat.ne_of_lt (Nat.lt_succ_of_lt (Heap.lt_size e))) (k b o e)
    have z : hp.objs.size + 1 + 1 ≤ dx := by
      first
        | (simpa only [Heap.size_push] using dn)
        | exact dn
        | (have q := dn; rw [Heap.size_push, Heap.size_push] at q; exact q)
    exact ⟨rfl, hq h' tk' (hp.objs.size + 1) dx ⟨old, Nat.le_succ _, ⟨_, _, hx, rfl, rfl, rfl, rfl⟩, Nat.le_trans (Nat.le_trans (Nat.le_succ _) (Nat.le_succ _)) z, dne, hns⟩⟩
end
end LowG
end PySem
namespace L2
open PySem PySem.Spec PyProof.Rows
theorem relO_lowG {v : V} {v' : Value} (r : RelV v v') (f : Str) : RelO (List.lookup f [(("given" : Str), v)]) (if f = "given" then some v' else none) := by
  by_cases hw : f = "given"
  · subst hw
    rw [if_pos rfl]
    have q : List.lookup ("given" : Str) [(("given" : Str), v)] = some v := by simp [List.lookup]
    rw [q]
    exact r
  · rw [if_neg hw]
    have qw : (f == ("given" : Str)) = false := by simpa using hw
    have q2 : List.lookup f [(("given" : Str), v)] = none := by simp [List.lookup, qw]
    rw [q2]
    trivial
section
variable {X : Cx} {C fI : Addr} {cn qn : Str}
/-- Low(e) -/
def tMkLowG (C : Addr) (ta : TA) : St → Hp → XK → Prop := fun σ H Q => ta σ H fun vs H1 => ∃ v, vs = [v] ∧ ∀ d, H1 d = none → Q (.ref C) (some d) (upd H1 d (.xd [(("given" : Str), v)]))
theorem pmk_lowG {a : Expr} {ta : TA} {p pos : Pos} {k : Nat} (T : PySem.LowG.LowTxt cn qn X.K X.mg C fI) (hr : Room k X.A) (ha : PA X [a] ta) (hg : Gl X cn := by rfl) (hdb : (cn == ("__debug__" : Str)) = false := by decide)
    (he : starEach (a :: []) X.env = (false, eval a X.env) :: starEach [] X.env := by rfl) (hpl : (backTo pos (starEach [] X.env)).any (·.1) = false := by rfl) :
    PMk X (.Call (.Name cn p) [a] [] pos) (tMkLowG C ta) := by
  intro pins s σ H Q I h
  refine wpAny_Call_Name_kw (ld_glob I hg T.gC ?_ hdb)
  refine PySem.W.callWith_K (h₀ := X.base) I.ok.mod.kin T.kC (thn (ha.run pos pins s σ H _ I h) fun us s1 hh => ?_) he hpl
  obtain ⟨vs, H1, I1, r1, v, ev, q1⟩ := hh
  subst ev
  refine ⟨I1.kIn, ?_⟩
  cases r1 with
  | cons rv rn =>
    rename_i v' us'
    cases rn
    show wpAny _ _ (call (.ref C) [v']) _ _ _
    have hlim := I1.nolimit
    obtain ⟨hp, g, dr, tk, os⟩ := s1
    refine wpAny_call (PySem.LowG.low_made T I1.kIn hlim (by have := hr.dp; omega) fun h' tk' e d M => ?_)
    show MkP X pins σ Q (.ref e) ⟨h', g, dr, tk', os⟩
    obtain ⟨oe, fv, hoe, hc, hd, hdat, h1⟩ := M.obj
    have hns := M.ns
    obtain ⟨G', g1, g2⟩ := restrict h' fun b => decide (b ≠ e)
    have gk : ∀ b, b ≠ e → G'.get? b = h'.get? b := fun b hb => g1 b (decide_eq_true hb)
    have ge : G'.get? e = none := g2 e (by simp)
    have old : ∀ b o, hp.get? b = some o → G'.get? b = some o := fun b o q => (gk b (Nat.ne_of_lt (Nat.lt_of_lt_of_le (Heap.lt_size q) M.new))).trans (M.keep b o q)
    have ob : ObjOk X.prog X.w (upd H1 d (.xd [(("given" : Str), v)])) G' d (.xd [(("given" : Str), v)]) :=
      ⟨_, hns.at (fun o q => (gk d M.dne).trans q), fun f => relO_lowG rv f⟩
    have J : Inv X pins σ (upd H1 d (.xd [(("given" : Str), v)])) ⟨G', g, dr, tk', os⟩ := I1.laid (t' := tk') old M.dbig ob
    refine ⟨e, oe, fv, ⟨G', g, dr, tk', os⟩, _, .ref C, some d, rfl, J, fun b o q => ?_, ge, hoe, ⟨hc, hd⟩, hdat, h1, ?_, rfl, I1.bare, raises_own T.exC T.tyC, q1 d (I1.hok.fresh M.dbig)⟩
    · by_cases hb : b = e
      · have q' : G'.get? b = some o := q
        rw [hb, ge] at q'; cases q'
      · exact (gk b hb).symm.trans q
    · rw [upd_ne (Ne.symm M.dne)]
      exact I1.hok.fresh M.new
/-- raise Low(e) -/
def tRaiseLowG (C : Addr) (W : WX) (ta : TA) : TS := fun _ σ H => tMkLowG C ta σ H fun cls d H' => W cls d σ H'
theorem ps_raiseLowG {a : Expr} {ta : TA} {W : WX} {p pos pos2 : Pos} {k : Nat} (hc : X.calm = true) (T : PySem.LowG.LowTxt cn qn X.K X.mg C fI) (hr : Room k X.A) (tk : Takes X W) (ha : PA X [a] ta) (hg : Gl X cn := by rfl) (hdb : (cn == ("__debug__" : Str)) = false := by decide)
    (he : starEach (a :: []) X.env = (false, eval a X.env) :: starEach [] X.env := by rfl) (hpl : (backTo pos (starEach [] X.env)).any (·.1) = false := by rfl) :
    PS X (.Raise (some (.Call (.Name cn p) [a] [] pos)) none pos2) (tRaiseLowG C W ta) := ps_raise hc tk (pmk_lowG T hr ha hg hdb he hpl)
/-- low.by, low the exception that the suite holds (at a; its class cls, its dict d) -/
def tByLowG (C : Addr) (a : Addr) (cls : Value) (d : Option Addr) (te : TE) : TE := fun σ H Q => te σ H fun x H1 => x = .ref a ∧ cls = .ref C ∧ ∃ (dd : Addr) (v : V), d = some dd ∧ H1 dd = some (.xd [(("given" : Str), v)]) ∧ Q v H1
theorem pe_byLowG {a : Addr} {oe : Obj} {cls : Value} {d : Option Addr} {pn : List (Addr × Obj)} {e : Expr} {te : TE} {pos : Pos} (T : PySem.LowG.LowTxt cn qn X.K X.mg C fI) (hz : Zc cls d oe) (hf : ∃ vs, oe.data = .fields vs) (he : PE (X.suite a ((a, oe) :: pn)) e te)
    (hb : attributeBase e "given" X.env (eval e X.env) = eval e X.env := by rfl) :
    PE (X.suite a ((a, oe) :: pn)) (.Attribute e "given" pos) (tByLowG C a cls d te) := by
  refine ⟨fun pins s σ H Q I h => ?_⟩
  refine attr_of hb (thn (he.run pins s σ H _ I h) fun u s1 hh => ?_)
  obtain ⟨x, H1, I1, rx, ex, ec, dd, v, ed, ea, q⟩ := hh
  subst ex
  obtain rfl : u = Value.ref a := rx
  subst ec
  subst ed
  obtain ⟨ha, _⟩ := I1.pin (a, oe) (List.mem_append_left _ List.mem_cons_self)
  obtain ⟨vs, hd⟩ := hf
  have hx : ObjOk X.prog X.w H1 s1.heap dd (.xd [(("given" : Str), v)]) := I1.hok dd _ ea
  obtain ⟨mA, hns, hr⟩ := hx
  obtain ⟨od, ho, hl⟩ := lookIn_ns hns
  have l : List.lookup ("given" : Str) [(("given" : Str), v)] = some v := by simp [List.lookup]
  obtain ⟨u, hu, ru⟩ := RelO.some_of (v := v) (o := mA "given") (by rw [← l]; exact hr "given")
  have J : PySem.W.InstAt s1.heap a oe C (some od) := ⟨ha, hz.1, by unfold PySem.W.notCls; rw [hd] <;> rfl, by rw [hz.2]; exact ho⟩
  exact HandSPX.exc_get I1.kIn J T.ga T.gg T.exC (PySem.W.findObj_own T.hdC T.noN rfl (by rw [hl, hu])) (handed_of ru) ⟨v, H1, I1.tok _, ru, q⟩
end
end L2


namespace PySem
namespace LowI
open PySem.W PySem.Calls PyProof.Rows PySem.HandSPX
/-! ### the text of __init__ -/
def iA (p1 p2 : Pos) : Arguments := { posonlyargs := [], args := [{ arg := "self", annotation := none, pos := p1 }, { arg := "index", annotation := none, pos := p2 }], vararg := none, kwonlyargs := [], kw_defaults := [], kwarg := none, defaults := [] }
def iB (q1 q2 q3 q4 : Pos) : List Stmt := [.Assign [.Attribute (.Name "self" q1) "index" q2] (.Name "index" q3) q4]
def iS : Scope := { kind := .function, names := [(PySem.Str.ofString "self", .local), (PySem.Str.ofString "index", .local)], isGenerator := false, isCoroutine := false, more := [] }
/-- what the written part says of Low, at C, and of its __init__, at fI -/
structure LowTxt (cn qn : Str) (K : Frag) (mg : Str → Option Value) (C fI : Addr) : Prop where
  gC : mg cn = some (.ref C)
  cls : ∃ nm q N bs bm sn sub ab col dd k0 k1 k2 k3 k5, K.lookup C = some (excClassObj nm q C N bs bm true sn sub ab col dd k0 k1 k2 k3 k5 "ValueError.__new__") ∧ refsVE bm = true
  sa : findIn K (.ref C) "__setattr__" = some (some (.builtin "object.__setattr__"))
  ga : findIn K (.ref C) "__getattribute__" = some (some (.builtin "BaseException.__getattribute__"))
  gg : findIn K (.ref C) "__getattr__" = some none
  noN : findIn K (.ref C) "index" = some none
  iC : findIn K (.ref C) "__init__" = some (some (.ref fI))
  tC : typeIn K (.ref fI) = some (.type "function")
  kC : keepIn K (.ref C) = true
  exC : subIn K (.ref C) (.type "BaseException") = some true
  tyC : typeIn K (.ref C) = some (.type "type")
  hdC : hasDictIn K C = true
  fn : ∃ (oc : Value) (od : Option Addr) (doc pm : Value) (an : Option Addr) (cdv ct : Value) (osl : Array (Option Value)) (p1 p2 q1 q2 q3 q4 : Pos),
    K.lookup fI = some ⟨oc, od, .func (fnOf "__init__" qn (iA p1 p2) (iB q1 q2 q3 q4) iS .none .none doc pm an cdv ct), osl⟩ ∧ codeIn K cdv qn = true
theorem one_size (v : Value) : [v].length ≤ sizeLine := by
  rw [sizeLine_eq]
  exact (by decide : 1 ≤ 16777216)
theorem kept_but {K : Frag} {h h' : Heap} {x : Addr} (X : K.In h) (hx : K.lookup x = none) (k : ∀ b o, b ≠ x → h.get? b = some o → h'.get? b = some o) : K.In h' := fun a o e =>
  k a o (fun z => by rw [z, hx] at e; cases e) (X a o e)
theorem ldC {M : Model} {s : Shared} {name : Str} {scope : Scope} {L a : Addr} {cd : Value} {m : Str → Option Value} {x : Str} {pos : Pos} {v : Value} {Q : Value → Shared → Prop} {A : Around} {E : Value → Shared → Prop} (hn : s.heap.Ns L m) (hv : m x = some v) (h : Q v s)
    (hk : scope.kind = .function := by rfl) (hl : (envOfC name scope L a cd).kindOf x = some .local := by rfl) (hd : (x == ("__debug__" : Str)) = false := by decide) :
    wpAny M A (eval (.Name x pos) (envOfC name scope L a cd)) Q E s := wpAny_Name (wpAny_loadName_local hk hl hn hv h) hd
/-- what __init__ leaves of a fresh exception at x -/
structure InitEnd (h h' : Heap) (x C dx t1 : Addr) (v : Value) : Prop where
  keep : ∀ b o, b ≠ x → h.get? b = some o → h'.get? b = some o
  obj : h'.get? x = some { cls := .ref C, dict := some dx, data := .fields #[.ref t1, .none, .none, .none, .bool false, .none] }
  dbig : h.objs.size ≤ dx
  dne : dx ≠ x
  ns : h'.Ns1 dx (fun y => if y = "index" then some v else none)
/-- a made Low -/
structure OwnMade (h h' : Heap) (e C d : Addr) (v : Value) : Prop where
  keep : ∀ b o, h.get? b = some o → h'.get? b = some o
  new : h.objs.size ≤ e
  obj : ∃ oe vs, h'.get? e = some oe ∧ oe.cls = .ref C ∧ oe.dict = some d ∧ oe.data = .fields vs ∧ vs[1]? = some .none
  dbig : h.objs.size ≤ d
  dne : d ≠ e
  ns : h'.Ns1 d (fun y => if y = "index" then some v else none)
section
variable {cn qn : Str} {prog : Program} {w : World} {A : Around} {E : Value → Shared → Prop} {R : Result → Shared → Prop} {s : Shared} {K : Frag} {mg : Str → Option Value} {C fI : Addr}
theorem low_init (T : LowTxt cn qn K mg C fI) {x t0 : Addr} {v : Value} (X : K.In s.heap) (hlim : s.heap.NoLimit) (hx : s.heap.get? x = some (excO C t0)) (hnx : K.lookup x = none) (hroom : A.depth < recursionLimit)
    (hq : ∀ h' tk dx, InitEnd s.heap h' x C dx t0 v → R (.ok (.ret .none)) { s with heap := h', toks := tk }) :
    codeAny (model prog w) A (.call (.ref fI) ⟨[.ref x, v], []⟩) R s := by
  obtain ⟨oc, od, doc, pm, an, cdv, ct, osl, p1, p2, q1, q2, q3, q4, ho, hcd⟩ := T.fn
  obtain ⟨nm, q, N, bs, bm, sn, sub, ab, col, dd, k0, k1, k2, k3, k5, hC, hbm⟩ := T.cls
  have hcl : clsIn K C = some { name := nm, bases := bs, mro := .ref C :: bm, ns := N, qualname := q, hasDict := true, slotNames := sn, subclasses := sub, abstract := ab, collection := col, hasDel := false } := by unfold clsIn; rw [hC] <;> rfl
  refine Att.call_fn (binds := [("self", .ref x), ("index", v)]) X hlim ho hcd hroom (BindsTo.of_eq (by first | rfl | with_unfolding_all rfl)) (by first | rfl | decide | with_unfolding_all rfl) (fun s₁ IC => ?_) rfl rfl rfl
  obtain ⟨h₁, tk₁, rfl⟩ := IC.toInCall.same
  have k : ∀ b o, s.heap.get? b = some o → h₁.get? b = some o := IC.toInCall.keep
  have hn := IC.toInCall.ns
  have hxL : s.heap.objs.size ≠ x := Nat.ne_of_gt (Heap.lt_size hx)
  have X₁ : K.In h₁ := X.keeps k
  have hx₁ := k _ _ hx
  -- self.by = by
  show wpAny _ _ (execs _ _) _ _ _
  refine wpAny_execs_cons (plainObj_wpAny_Assign_Attribute ?_)
  refine ldC (v := v) hn (by first | rfl | with_unfolding_all rfl | kernel_rfl) (ldC (v := .ref x) hn (by first | rfl | with_unfolding_all rfl | kernel_rfl) ?_)
  refine set_plain X₁ (ox := excO C t0) (od := none) ⟨hx₁, rfl, rfl, trivial⟩ T.sa ?_
  refine exc_osa X₁ hx₁ hcl (show refsVE (.ref C :: bm) = true from hbm) rfl T.noN (fun h₃ tk₃ dx k₃ dn dne hx₃ hn₃ => ?_)
  show wpAny _ _ (execs _ _) _ _ _
  have z : s.heap.objs.size < h₁.objs.size := hn.lt
  exact wpAny_execs_nil (hq h₃ tk₃ dx ⟨fun b o hb e => k₃ b o hb (k b o e), hx₃, Nat.le_of_lt (Nat.lt_of_lt_of_le z dn), dne, hn₃⟩)
theorem low_made (T : LowTxt cn qn K mg C fI) {v : Value} (X : K.In s.heap) (hlim : s.heap.NoLimit) (hroom : A.depth + 1 < recursionLimit)
    (hq : ∀ h' tk e d, OwnMade s.heap h' e C d v → R (.ok (.ret (.ref e))) { s with heap := h', toks := tk }) :
    codeAny (model prog w) A (.call (.ref C) ⟨[v], []⟩) R s := by
  obtain ⟨nm, q, N, bs, bm, sn, sub, ab, col, dd, k0, k1, k2, k3, k5, hC, hbm⟩ := T.cls
  obtain ⟨hp, g, dr, tk, os⟩ := s
  have k : ∀ b o, hp.get? b = some o → ((hp.push (kdv_tup [v])).push (excO C hp.objs.size)).get? b = some o := fun b o e => Heap.get?_push_of_some _ (Heap.get?_push_of_some _ e)
  have hget : ((hp.push (kdv_tup [v])).push (excO C hp.objs.size)).get? (hp.objs.size + 1) = some (excO C hp.objs.size) := by heap_get
  have hnx : K.lookup (hp.objs.size + 1) = none := by
    cases e : K.lookup (hp.objs.size + 1) with
    | none => rfl
    | some o =>
      have z : hp.get? (hp.objs.size + 1) = some o := X _ _ e
      exact absurd (Nat.lt_of_succ_lt (Heap.lt_size z)) (Nat.lt_irrefl _)
  refine call_own F.excBase_ValueError (fun X => refsVE_contains X bm hbm) (X _ _ hC) (looks_findIn X T.iC) (fun self => bind_fn X self T.tC) (one_size v) ?_
  refine low_init (s := ⟨(hp.push (kdv_tup [v])).push (excO C hp.objs.size), g, dr, tk, os⟩) T (X.keeps k) (hlim.keeps k) hget hnx ?_ fun h' tk' dx ⟨k', hx, dn, dne, hns⟩ => ?_
  · show A.depth + 1 < recursionLimit
    exact hroom
  · have old : ∀ b o, hp.get? b = some o → h'.get? b = some o := fun b o e => k' b o (Nat.ne_of_lt (Nat.lt_succ_of_lt (Heap.lt_size e))) (k b o e)
    have z : hp.objs.size + 1 + 1 ≤ dx := by
      first
        | (simpa only [Heap.size_push] using dn)
        | exact dn
        | (have q := dn; rw [Heap.size_push, Heap.size_push] at q; exact q)
    exact ⟨rfl, hq h' tk' (hp.objs.size + 1) dx ⟨old, Nat.le_succ _, ⟨_, _, hx, rfl, rfl, rfl, rfl⟩, Nat.le_trans (Nat.le_trans (Nat.le_succ _) (Nat.le_succ _)) z, dne, hns⟩⟩
end
end LowI
end PySem
namespace L2
open PySem PySem.Spec PyProof.Rows
theorem relO_lowI {v : V} {v' : Value} (r : RelV v v') (f : Str) : RelO (List.lookup f [(("index" : Str), v)]) (if f = "index" then some v' else none) := by
  by_cases hw : f = "index"
  · subst hw
    rw [if_pos rfl]
    have q : List.lookup ("index" : Str) [(("index" : Str), v)] = some v := by simp [List.lookup]
    rw [q]
    exact r
  · rw [if_neg hw]
    have qw : (f == ("index" : Str)) = false := by simpa using hw
    have q2 : List.lookup f [(("index" : Str), v)] = none := by simp [List.lookup, qw]
    rw [q2]
    trivial
section
variable {X : Cx} {C fI : Addr} {cn qn : Str}
/-- Low(e) -/
def tMkLowI (C : Addr) (ta : TA) : St → Hp → XK → Prop := fun σ H Q => ta σ H fun vs H1 => ∃ v, vs = [v] ∧ ∀ d, H1 d = none → Q (.ref C) (some d) (upd H1 d (.xd [(("index" : Str), v)]))
theorem pmk_lowI {a : Expr} {ta : TA} {p pos : Pos} {k : Nat} (T : PySem.LowI.LowTxt cn qn X.K X.mg C fI) (hr : Room k X.A) (ha : PA X [a] ta) (hg : Gl X cn := by rfl) (hdb : (cn == ("__debug__" : Str)) = false := by decide)
    (he : starEach (a :: []) X.env = (false, eval a X.env) :: starEach [] X.env := by rfl) (hpl : (backTo pos (starEach [] X.env)).any (·.1) = false := by rfl) :
    PMk X (.Call (.Name cn p) [a] [] pos) (tMkLowI C ta) := by
  intro pins s σ H Q I h
  refine wpAny_Call_Name_kw (ld_glob I hg T.gC ?_ hdb)
  refine PySem.W.callWith_K (h₀ := X.base) I.ok.mod.kin T.kC (thn (ha.run pos pins s σ H _ I h) fun us s1 hh => ?_) he hpl
  obtain ⟨vs, H1, I1, r1, v, ev, q1⟩ := hh
  subst ev
  refine ⟨I1.kIn, ?_⟩
  cases r1 with
  | cons rv rn =>
    rename_i v' us'
    cases rn
    show wpAny _ _ (call (.ref C) [v']) _ _ _
    have hlim := I1.nolimit
    obtain ⟨hp, g, dr, tk, os⟩ := s1
    refine wpAny_call (PySem.LowI.low_made T I1.kIn hlim (by have := hr.dp; omega) fun h' tk' e d M => ?_)
    show MkP X pins σ Q (.ref e) ⟨h', g, dr, tk', os⟩
    obtain ⟨oe, fv, hoe, hc, hd, hdat, h1⟩ := M.obj
    have hns := M.ns
    obtain ⟨G', g1, g2⟩ := restrict h' fun b => decide (b ≠ e)
    have gk : ∀ b, b ≠ e → G'.get? b = h'.get? b := fun b hb => g1 b (decide_eq_true hb)
    have ge : G'.get? e = none := g2 e (by simp)
    have old : ∀ b o, hp.get? b = some o → G'.get? b = some o := fun b o q => (gk b (Nat.ne_of_lt (Nat.lt_of_lt_of_le (Heap.lt_size q) M.new))).trans (M.keep b o q)
    have ob : ObjOk X.prog X.w (upd H1 d (.xd [(("index" : Str), v)])) G' d (.xd [(("index" : Str), v)]) :=
      ⟨_, hns.at (fun o q => (gk d M.dne).trans q), fun f => relO_lowI rv f⟩
    have J : Inv X pins σ (upd H1 d (.xd [(("index" : Str), v)])) ⟨G', g, dr, tk', os⟩ := I1.laid (t' := tk') old M.dbig ob
    refine ⟨e, oe, fv, ⟨G', g, dr, tk', os⟩, _, .ref C, some d, rfl, J, fun b o q => ?_, ge, hoe, ⟨hc, hd⟩, hdat, h1, ?_, rfl, I1.bare, raises_own T.exC T.tyC, q1 d (I1.hok.fresh M.dbig)⟩
    · by_cases hb : b = e
      · have q' : G'.get? b = some o := q
        rw [hb, ge] at q'; cases q'
      · exact (gk b hb).symm.trans q
    · rw [upd_ne (Ne.symm M.dne)]
      exact I1.hok.fresh M.new
/-- raise Low(e) -/
def tRaiseLowI (C : Addr) (W : WX) (ta : TA) : TS := fun _ σ H => tMkLowI C ta σ H fun cls d H' => W cls d σ H'
theorem ps_raiseLowI {a : Expr} {ta : TA} {W : WX} {p pos pos2 : Pos} {k : Nat} (hc : X.calm = true) (T : PySem.LowI.LowTxt cn qn X.K X.mg C fI) (hr : Room k X.A) (tk : Takes X W) (ha : PA X [a] ta) (hg : Gl X cn := by rfl) (hdb : (cn == ("__debug__" : Str)) = false := by decide)
    (he : starEach (a :: []) X.env = (false, eval a X.env) :: starEach [] X.env := by rfl) (hpl : (backTo pos (starEach [] X.env)).any (·.1) = false := by rfl) :
    PS X (.Raise (some (.Call (.Name cn p) [a] [] pos)) none pos2) (tRaiseLowI C W ta) := ps_raise hc tk (pmk_lowI T hr ha hg hdb he hpl)
/-- low.by, low the exception that the suite holds (at a; its class cls, its dict d) -/
def tByLowI (C : Addr) (a : Addr) (cls : Value) (d : Option Addr) (te : TE) : TE := fun σ H Q => te σ H fun x H1 => x = .ref a ∧ cls = .ref C ∧ ∃ (dd : Addr) (v : V), d = some dd ∧ H1 dd = some (.xd [(("index" : Str), v)]) ∧ Q v H1
theorem pe_byLowI {a : Addr} {oe : Obj} {cls : Value} {d : Option Addr} {pn : List (Addr × Obj)} {e : Expr} {te : TE} {pos : Pos} (T : PySem.LowI.LowTxt cn qn X.K X.mg C fI) (hz : Zc cls d oe) (hf : ∃ vs, oe.data = .fields vs) (he : PE (X.suite a ((a, oe) :: pn)) e te)
    (hb : attributeBase e "index" X.env (eval e X.env) = eval e X.env := by rfl) :
    PE (X.suite a ((a, oe) :: pn)) (.Attribute e "index" pos) (tByLowI C a cls d te) := by
  refine ⟨fun pins s σ H Q I h => ?_⟩
  refine attr_of hb (thn (he.run pins s σ H _ I h) fun u s1 hh => ?_)
  obtain ⟨x, H1, I1, rx, ex, ec, dd, v, ed, ea, q⟩ := hh
  subst ex
  obtain rfl : u = Value.ref a := rx
  subst ec
  subst ed
  obtain ⟨ha, _⟩ := I1.pin (a, oe) (List.mem_append_left _ List.mem_cons_self)
  obtain ⟨vs, hd⟩ := hf
  have hx : ObjOk X.prog X.w H1 s1.heap dd (.xd [(("index" : Str), v)]) := I1.hok dd _ ea
  obtain ⟨mA, hns, hr⟩ := hx
  obtain ⟨od, ho, hl⟩ := lookIn_ns hns
  have l : List.lookup ("index" : Str) [(("index" : Str), v)] = some v := by simp [List.lookup]
  obtain ⟨u, hu, ru⟩ := RelO.some_of (v := v) (o := mA "index") (by rw [← l]; exact hr "index")
  have J : PySem.W.InstAt s1.heap a oe C (some od) := ⟨ha, hz.1, by unfold PySem.W.notCls; rw [hd] <;> rfl, by rw [hz.2]; exact ho⟩
  exact HandSPX.exc_get I1.kIn J T.ga T.gg T.exC (PySem.W.findObj_own T.hdC T.noN rfl (by rw [hl, hu])) (handed_of ru) ⟨v, H1, I1.tok _, ru, q⟩
end
end L2



end
section
/-! # Raises of own classes; defs as values -/
namespace DL
open PySem PySem.Spec L2
section
variable {X : Cx} {W : WX} {own : List Nat} {e a b c : Expr} {es : List Expr} {pos p p2 pos2 : Pos} {f g h : DEnv → M D} {fs : DEnv → M (List D)} {k k' : Nat} {C fI : Addr} {cn qn : Str}
/-- raise C(e) -/
def sRaise (c fl : Str) (f : DEnv → M D) (ε : DEnv) : M Fl := sx ε (f ε) fun d => pure (.xc c (some (fl, d)) ε)
theorem exR_new {P : FP X.K X.mg} {H : Hp} {fl : Str} {x : D} {v : V} {d : Addr} (hm : X.mg cn = some (.ref C)) (rx : Rep P.g (L0 P) H x v) (hd : H d = none) : ExR P (L0 P) (upd H d (.xd [(fl, v)])) cn (some (fl, x)) (.ref C) (some d) :=
  ⟨C, hm, rfl, d, v, rfl, upd_same, Rep.mono (Kp.same (same_new hd)) (fun _ h => .inl h) x v rx⟩
theorem raise_go {K : PySem.W.Frag} {mg : Str → Option Value} {P : FP K mg} {own : List Nat} {σ : St} {H : Hp} {ε : DEnv} {p : Pool} {W : WX} {Z : Ends} {cn fl : Str} {x : D} {cv : Value} {dx : Option Addr} {H' : Hp} (r : SRel P own σ H ε p) (q : Post ((pure (.xc cn (some (fl, x)) ε) : M Fl) p) (FK P own W Z σ H) NoX)
    (s : Same H H') (ex : ExR P (L0 P) H' cn (some (fl, x)) cv dx) : W cv dx σ H' :=
  q σ cv dx H' (r.stepS s) (Grow.ex (Kp.same s)) ex
theorem pds_raiseG (T : PySem.LowG.LowTxt cn qn X.K X.mg C fI) (hc : X.calm = true) (hr : Room k X.A) (tk : Takes X W) (ha : PD X W own a f) (hg : Gl X cn := by rfl) (hdb : (cn == ("__debug__" : Str)) = false := by decide)
    (he : starEach (a :: []) X.env = (false, eval a X.env) :: starEach [] X.env := by rfl) (hpl : (backTo pos (starEach [] X.env)).any (·.1) = false := by rfl) :
    PDS X W own (.Raise (some (.Call (.Name cn p) [a] [] pos)) none pos2) (sRaise cn "given" f) := (ps_raiseLowG hc T hr tk (pa_cons ha pa_nil he) hg hdb he hpl).imp fun Z σ H ⟨P, ε, p, r, q⟩ => by
  refine tD.sxq (k := fun d ε => pure (Fl.xc cn (some ("given", d)) ε)) r q fun x v H1 p1 k1 r1 rx q1 => ⟨v, rfl, fun d hd => ?_⟩
  exact raise_go r1 q1 (same_new hd) (exR_new T.gC rx hd)
theorem pds_raiseI (T : PySem.LowI.LowTxt cn qn X.K X.mg C fI) (hc : X.calm = true) (hr : Room k X.A) (tk : Takes X W) (ha : PD X W own a f) (hg : Gl X cn := by rfl) (hdb : (cn == ("__debug__" : Str)) = false := by decide)
    (he : starEach (a :: []) X.env = (false, eval a X.env) :: starEach [] X.env := by rfl) (hpl : (backTo pos (starEach [] X.env)).any (·.1) = false := by rfl) :
    PDS X W own (.Raise (some (.Call (.Name cn p) [a] [] pos)) none pos2) (sRaise cn "index" f) := (ps_raiseLowI hc T hr tk (pa_cons ha pa_nil he) hg hdb he hpl).imp fun Z σ H ⟨P, ε, p, r, q⟩ => by
  refine tD.sxq (k := fun d ε => pure (Fl.xc cn (some ("index", d)) ε)) r q fun x v H1 p1 k1 r1 rx q1 => ⟨v, rfl, fun d hd => ?_⟩
  exact raise_go r1 q1 (same_new hd) (exR_new T.gC rx hd)
/-- raise C(), C without an own __init__ -/
structure ExcN (cn : Str) (K : PySem.W.Frag) (mg : Str → Option Value) (C : Addr) : Prop where
  gC : mg cn = some (.ref C)
  x : PySem.W.excIn K C [.type "ValueError", .type "Exception", .type "BaseException", .type "object"] "ValueError.__new__" = true
  kC : PySem.W.keepIn K (.ref C) = true
  exC : PySem.W.subIn K (.ref C) (.type "BaseException") = some true
  tyC : PySem.W.typeIn K (.ref C) = some (.type "type")
theorem pmk_ownN {cn : Str} (T : ExcN cn X.K X.mg C) (hg : Gl X cn) (hdb : (cn == ("__debug__" : Str)) = false) : PMk X (.Call (.Name cn p) [] [] pos) (fun _ H Q => Q (.ref C) none H) := by
  intro pins s σ H Q I h
  refine wpAny_Call_Name_kw (ld_glob I hg T.gC ?_ hdb)
  refine PySem.W.callWith_K0 I.kIn T.kC ?_
  show wpAny _ _ (call (.ref C) []) _ _ _
  obtain ⟨bm, N, nm, qn, bs, hdct, sn, sub, ab, col, dd, k0, k1, k2, k3, k5, mN, hC, hN, hni, TT⟩ := exc_obj I.kIn T.x
  refine wpAny_call_exc_subT PySem.F.excBase_ValueError TT hC hN hni (fun h' e hm => ?_) (by show 0 ≤ sizeLine; omega)
  exact mk_of I hm (raises_own T.exC T.tyC) h (I.hok.gone hm.new)
def sRaise0 (c : Str) (ε : DEnv) : M Fl := pure (.xc c none ε)
theorem pds_raise0 (T : ExcN cn X.K X.mg C) (hc : X.calm = true) (tk : Takes X W) (hg : Gl X cn := by rfl) (hdb : (cn == ("__debug__" : Str)) = false := by decide) :
    PDS X W own (.Raise (some (.Call (.Name cn p) [] [] pos)) none pos2) (sRaise0 cn) := (ps_raise hc tk (pmk_ownN T hg hdb)).imp fun Z σ H ⟨P, ε, p, r, q⟩ => by
  exact q σ (.ref C) none H r Grow.refl ⟨C, T.gC, rfl, rfl⟩
/-! ### defs as values -/
theorem pd_fn {x : Str} {fa : Addr} {fd : FuncData} {ps : List Str} {nw : Bool} {m : List D → M D} (F : CalF X.prog X.w X.K X.mg X.base k x fa fd ps nw m) (hg : Gl X x := by rfl) (hd : (x == ("__debug__" : Str)) = false := by decide) : PD X W own (.Name x pos) (dC (.fn x)) :=
  pd_glob (v := .ref fa) hg F.mg rfl (fun g L H e1 e2 => by unfold Rep; exact ⟨fa, rfl, by rw [e2]; exact F.mg⟩) hd
/-- the defs that a name may hold: how many parameters, what they give -/
def TabOk (X : Cx) (k : Nat) (tab : Str → Option (Nat × (List D → M D))) : Prop := ∀ x n m, tab x = some (n, m) → ∃ j fa fd ps nw, j ≤ k ∧ ps.length = n ∧ CalF X.prog X.w X.K X.mg X.base j x fa fd ps nw m
def fnO (tab : Str → Option (Nat × (List D → M D))) : D → Option (Nat × (List D → M D))
  | .fn x => tab x
  | _ => none
def dCallV (tab : Str → Option (Nat × (List D → M D))) (i : Nat) (fs : DEnv → M (List D)) (ε : DEnv) : M D := dVar i ε >>= fun c => liftO (fnO tab c) >>= fun nm => fs ε >>= fun ds => if ds.length = nm.1 then nm.2 ds else M.fail
theorem pd_cV {tab : Str → Option (Nat × (List D → M D))} {i : Nat} {x : Str} (T : TabOk X k tab) (hr : Room k X.A) (hgd : X.A.guards = some []) (tk : Takes X W) (ha : PDA X W own (e :: es) fs) (hN : X.N[i]? = some x := by rfl)
    (hv : Vis X.env.scope x := by first | exact Or.inl rfl | exact Or.inr (Or.inl rfl) | exact Or.inr (Or.inr rfl)) (hd : (x == ("__debug__" : Str)) = false := by decide) (hcd : (x == ("__classdict__" : Str)) = false := by decide)
    (he : starEach (e :: es) X.env = (false, eval e X.env) :: starEach es X.env := by rfl) (hpl : (backTo pos (starEach es X.env)).any (·.1) = false := by rfl) : PD X W own (.Call (.Name x p) (e :: es) [] pos) (dCallV tab i fs) := by
  refine ⟨fun pins s σ H Q I ⟨P, ε, p0, rel, q⟩ => ?_⟩
  have vr : tD X.K X.mg W own (dVar i) σ H (fun v H1 => ∃ (fa : Addr) (j : Nat) (fd : FuncData) (ps : List Str) (nw : Bool) (m : List D → M D) (y : Str), j ≤ k ∧ v = .ref fa ∧ CalF X.prog X.w X.K X.mg X.base j y fa fd ps nw m ∧
      tDA X.K X.mg W own fs σ H1 (fun vs H2 => spD X.K X.mg ps.length nw m vs H2 Q (WE W σ))) := by
    refine tD.seq (k := fun c ε => liftO (fnO tab c) >>= fun nm => fs ε >>= fun ds => if ds.length = nm.1 then nm.2 ds else M.fail) rel q fun c v H1 p1 k1 r1 rv q1 => ?_
    obtain ⟨nm, e, q1⟩ := Post.lift (Post.thn q1)
    cases c <;> simp only [fnO] at e <;> try cases e
    rename_i y
    obtain ⟨n, m⟩ := nm
    obtain ⟨j, fa, fd, ps, nw, hj, hl, F⟩ := T y n m e
    subst hl
    unfold Rep at rv
    obtain ⟨fa', rfl, em⟩ := rv
    have ef : fa' = fa := by
      have z := em.symm.trans F.mg
      cases z
      rfl
    subst ef
    refine ⟨fa', j, fd, ps, nw, m, y, hj, rfl, F, ?_⟩
    refine tDA.seq (k := fun ds _ => if ds.length = ps.length then m ds else M.fail) r1 q1 fun ds vs H2 p2 k2 r2 rds q2 => ?_
    split at q2
    · rename_i hl
      exact spD_of r2 rds hl (q2.mono (fun _ _ z => (z.shift k1).shift k2) fun _ _ _ z => z)
    · exact q2.elim
  refine wpAny_Call_Name_kw (thn ((pd_var (pos := p) hN hv hd hcd).run pins s σ H _ I vr) fun u s1 ⟨v, H1, I1, r1, fa, j, fd, ps, nw, m, y, hj, ev, F, rd⟩ => ?_)
  subst ev
  cases r1
  refine PySem.W.callWith_K (h₀ := X.base) I.ok.mod.kin F.kp (thn (ha.run pos pins s1 σ H1 _ I1 rd) fun us s2 ⟨vs, H2, I2, rv, z⟩ => ⟨I2.kIn, ?_⟩) he hpl
  exact run_fnD F.fn (hr.mono hj) hgd F.bd tk I2 rv z
end
end DL

end
section
/-! # try: .. except C as e: a suite that reads what e is and keeps -/
namespace DL
open PySem PySem.Spec L2
/-- isinstance(e, c) of the error at a that the suite holds -/
def rIsX (K : PySem.W.Frag) (a : Addr) (cls : Value) (d : Option Addr) : List V → Hp → VK → Prop := fun xs H Q => ∃ (D : Addr) (c : V) (cv : Value) (b : Bool), cls = .ref D ∧ ExcC K D ∧ (∀ dd, d = some dd → ∃ kv, H dd = some (.xd kv)) ∧
  xs = [.ref a, c] ∧ (∀ u, RelV c u → u = cv) ∧ PySem.W.kitOne K (.ref D) cv = some b ∧ Q (.bl b) H
theorem call_isX {X : Cx} {a : Addr} {cls : Value} {d : Option Addr} {oe : Obj} {pn : List (Addr × Obj)} (hz : Zc cls d oe) (hf : ∃ vs, oe.data = .fields vs) : CallR (X.suite a ((a, oe) :: pn)) (.builtin "isinstance") (rIsX X.K a cls d) := by
  intro pins s σ H xs us Q I r h
  obtain ⟨D, c, cv, b, rfl, C, hd, rfl, hcv, e, q⟩ := h
  cases r with
  | cons rx rr =>
    cases rr with
    | cons rt rr =>
      cases rr
      cases rx
      have ec := hcv _ rt
      subst ec
      obtain ⟨hget, _⟩ := I.pin (a, oe) (List.mem_append.mpr (.inl List.mem_cons_self))
      obtain ⟨vs, hv⟩ := hf
      have J : ∃ od, PySem.W.InstAt s.heap a oe D od := by
        cases d with
        | none =>
          obtain ⟨oc, od, oda, osl⟩ := oe
          obtain ⟨h1, h2⟩ := hz
          dsimp only at h1 h2 hv
          subst h1 h2 hv
          exact ⟨none, hget, rfl, rfl, trivial⟩
        | some dd =>
          obtain ⟨kv, hk⟩ := hd dd rfl
          have hx : ObjOk X.prog X.w H s.heap dd (.xd kv) := I.hok dd _ hk
          obtain ⟨mA, hns, hr⟩ := hx
          obtain ⟨od, ho, hl⟩ := lookIn_ns hns
          exact ⟨some od, hget, hz.1, by unfold PySem.W.notCls; rw [hv] <;> rfl, by rw [hz.2]; exact ho⟩
      obtain ⟨od, J⟩ := J
      obtain ⟨cd, hc, _⟩ := PySem.W.any_some C.hd
      exact PySem.W.kia_one (PySem.W.kitx_exc (by rw [hc]; rfl) C.hg C.hk C.hs C.ha C.hn C.ht C.hm) I.kIn J e (fun z => nomatch z) fun tk => ⟨.bl b, H, I.kept (t' := tk) fun _ _ z => z, rfl, q⟩
def tIsX (K : PySem.W.Frag) (a : Addr) (cls : Value) (d : Option Addr) (i : Nat) (c : V) : TE := tCB (rIsX K a cls d) (tCons (tVar i) (tCons (tC c) tNil))
/-- what the suite tells of the error: the class that is asked for, the word, the field -/
structure Ent where
  C : Addr
  w : Str
  f : Option Str
/-- e.f, or None -/
def tEl (a : Addr) (cls : Value) (d : Option Addr) (C : Addr) (f : Option Str) (i : Nat) : TE := fun σ H Q => match f with
  | none => Q .non H
  | some fl => σ[i]? = some (some (.ref a)) ∧ cls = .ref C ∧ ∃ (dd : Addr) (v : V), d = some dd ∧ H dd = some (.xd [(fl, v)]) ∧ Q v H
section
variable {X : Cx} {a C fI : Addr} {oe : Obj} {cls : Value} {d : Option Addr} {pn : List (Addr × Obj)} {i : Nat} {x cn qn : Str} {p pos : Pos}
theorem pe_elG (T : PySem.LowG.LowTxt cn qn X.K X.mg C fI) (hz : Zc cls d oe) (hf : ∃ vs, oe.data = .fields vs) (he : PE (X.suite a ((a, oe) :: pn)) (.Name x p) (tVar i)) (hb : attributeBase (.Name x p) "given" X.env (eval (.Name x p) X.env) = eval (.Name x p) X.env := by rfl) :
    PE (X.suite a ((a, oe) :: pn)) (.Attribute (.Name x p) "given" pos) (tEl a cls d C (some "given") i) := (pe_byLowG T hz hf he hb).imp fun σ H Q ⟨h1, h2, dd, v, h3, h4, q⟩ => ⟨_, h1, rfl, h2, dd, v, h3, h4, q⟩
theorem pe_elI (T : PySem.LowI.LowTxt cn qn X.K X.mg C fI) (hz : Zc cls d oe) (hf : ∃ vs, oe.data = .fields vs) (he : PE (X.suite a ((a, oe) :: pn)) (.Name x p) (tVar i)) (hb : attributeBase (.Name x p) "index" X.env (eval (.Name x p) X.env) = eval (.Name x p) X.env := by rfl) :
    PE (X.suite a ((a, oe) :: pn)) (.Attribute (.Name x p) "index" pos) (tEl a cls d C (some "index") i) := (pe_byLowI T hz hf he hb).imp fun σ H Q ⟨h1, h2, dd, v, h3, h4, q⟩ => ⟨_, h1, rfl, h2, dd, v, h3, h4, q⟩
theorem pe_elN {Y : Cx} {j : Nat} : PE Y (.Constant .none j pos) (tEl a cls d C none i) := pe_non.imp fun _ _ _ q => q
end
def rAdd4 (K : PySem.W.Frag) : R2 := fun x y H Q => rI0 (fun i j => .int (i + j)) x y H Q ∨ rCatA K x y H Q ∨ rCat x y H Q ∨ ∃ i j, x = .str i ∧ y = .str j ∧ i.length + j.length ≤ sizeLine ∧ Q (.str (i ++ j)) H
/-- found = found + ([[w, e.f]] if isinstance(e, C) else []) -/
def tEnt (K : PySem.W.Frag) (a : Addr) (cls : Value) (d : Option Addr) (e : Ent) : TS :=
  tAsg (tOp (rAdd4 K) (tVar 3) (tIf (tB (tIsX K a cls d 2 (.ref e.C))) (tLst (tCons (tLst (tCons (tC (.str e.w)) (tCons (tEl a cls d e.C e.f 2) tNil))) tNil)) (tLst tNil))) (gName 3)
def rLenSq (K : PySem.W.Frag) : List V → Hp → VK → Prop := fun xs H Q => ∃ p ys, xs = [.ref p] ∧ (SqL K H p ys ∨ SqT K H p ys) ∧ Q (.int ys.length) H
/-- return found[0] if len(found) == 1 and isinstance(e, ValueError) else ["another", found] -/
def tLast (K : PySem.W.Frag) (a : Addr) (cls : Value) (d : Option Addr) : TS :=
  tRet (tIf (tAnd (tTest (tOp rEq (tCB (rLenSq K) (tCons (tVar 3) tNil)) (tC (.int 1)))) (tB (tIsX K a cls d 2 (.ty "ValueError")))) (tOp (rIxL K) (tVar 3) (tC (.int 0))) (tLst (tCons (tC (.str "another")) (tCons (tVar 3) tNil))))
def tEnts (K : PySem.W.Frag) (a : Addr) (cls : Value) (d : Option Addr) : List Ent → TS
  | [] => tLast K a cls d
  | e :: r => tSeq (tEnt K a cls d e) (tEnts K a cls d r)
def tHeard (K : PySem.W.Frag) (es : List Ent) (a : Addr) (cls : Value) (d : Option Addr) : TS := tSeq (tAsg (tLst tNil) (gName 3)) (tEnts K a cls d es)
section
variable {K : PySem.W.Frag} {a : Addr} {d : Option Addr} {D : Addr}
theorem ite_t {A B : Prop} (h : A) : if (true : Bool) = true then A else B := by rw [if_pos rfl]; exact h
theorem ite_f {A B : Prop} (h : B) : if (false : Bool) = true then A else B := by rw [if_neg Bool.false_ne_true]; exact h
/-- what is known of the error -/
structure Held (K : PySem.W.Frag) (a D : Addr) (d : Option Addr) (σ : St) (H : Hp) : Prop where
  len : σ.length = 4
  at2 : σ[2]? = some (some (.ref a))
  dk : ∀ dd, d = some dd → ∃ kv, H dd = some (.xd kv)
theorem Held.same {σ : St} {H H' : Hp} (h : Held K a D d σ H) (s : Same H H') (v : Option V) : Held K a D d (σ.set 3 v) H' :=
  ⟨by rw [List.length_set]; exact h.len, by rw [List.getElem?_set_ne (by decide)]; exact h.at2, fun dd e => (h.dk dd e).imp fun kv z => s _ _ z⟩
theorem Held.set3 {σ : St} {H : Hp} (h : Held K a D d σ H) (v : Option V) : (σ.set 3 v)[3]? = some v := by
  rw [List.getElem?_set_self (by rw [h.len]; decide)]
theorem isX_go {σ : St} {H : Hp} (h : Held K a D d σ H) (C : ExcC K D) {c : V} {cv : Value} {b : Bool} (hc : ∀ u, RelV c u → u = cv) (hk : PySem.W.kitOne K (.ref D) cv = some b) {Q : VK} (q : Q (.bl b) H) : tIsX K a (.ref D) d 2 c σ H Q :=
  ⟨_, h.at2, D, c, cv, b, rfl, C, h.dk, rfl, hc, hk, q⟩
theorem ref_rel (C : Addr) : ∀ u, RelV (.ref C) u → u = .ref C := fun u h => h
theorem ty_rel (T : String) : ∀ u, RelV (.ty T) u → u = .type T := fun u h => h
theorem ent_no {Z : Ends} {σ : St} {H : Hp} (h : Held K a D d σ H) (C : ExcC K D) {e : Ent} (hk : PySem.W.kitOne K (.ref D) (.ref e.C) = some false) {q : Addr} {vs : List V} (h3 : σ[3]? = some (some (.ref q))) (hq : H q = some (.lst vs)) (hz : vs.length ≤ 1)
    (k : ∀ q' H', Same H H' → H' q' = some (.lst vs) → Z.nx (σ.set 3 (some (.ref q'))) H') : tEnt K a (.ref D) d e Z σ H := by
  refine ⟨_, h3, isX_go h C (ref_rel _) hk ⟨false, rfl, ?_⟩⟩
  refine ite_f ?_
  refine ⟨by decide, fun p hp => .inr (.inr (.inl ⟨q, p, vs, [], rfl, rfl, by rw [upd_ne (ne_of_none hq hp)]; exact hq, upd_same, by rw [sizeLine_eq]; simp; omega, fun p' hp' => ?_⟩))⟩
  refine k p' _ ((same_new hp).trans (same_new hp')) (by rw [upd_same, List.append_nil])
theorem ent_yes {Z : Ends} {σ : St} {H : Hp} (h : Held K a D d σ H) (C : ExcC K D) {e : Ent} (hk : PySem.W.kitOne K (.ref D) (.ref e.C) = some true) {q : Addr} (h3 : σ[3]? = some (some (.ref q))) (hq : H q = some (.lst []))
    {v : V} (hv : match e.f with | none => v = .non | some fl => D = e.C ∧ ∃ dd, d = some dd ∧ H dd = some (.xd [(fl, v)]))
    (k : ∀ q' q1 H', Same H H' → H' q' = some (.lst [.ref q1]) → H' q1 = some (.lst [.str e.w, v]) → H q1 = none → Z.nx (σ.set 3 (some (.ref q'))) H') : tEnt K a (.ref D) d e Z σ H := by
  have el : ∀ Q : VK, Q v H → tEl a (.ref D) d e.C e.f 2 σ H Q := fun Q z => by
    unfold tEl
    cases hf : e.f with
    | none => rw [hf] at hv; rw [← hv]; exact z
    | some fl =>
      rw [hf] at hv
      obtain ⟨e1, dd, e2, e3⟩ := hv
      exact ⟨h.at2, by rw [e1], dd, v, e2, e3, z⟩
  refine ⟨_, h3, isX_go h C (ref_rel _) hk ⟨true, rfl, ?_⟩⟩
  refine ite_t ?_
  dsimp only [tLst, tCons, tC, tNil]
  refine el _ ?_
  refine ⟨by rw [sizeLine_eq]; exact Nat.le_of_ble_eq_true rfl, fun q1 hq1 => ⟨by rw [sizeLine_eq]; exact Nat.le_of_ble_eq_true rfl, fun q2 hq2 => ?_⟩⟩
  have s1 : Same H (upd H q1 (.lst [.str e.w, v])) := same_new hq1
  have s2 := same_new (o := .lst [.ref q1]) hq2
  refine .inr (.inr (.inl ⟨q, q2, [], [.ref q1], rfl, rfl, s2 _ _ (s1 _ _ hq), upd_same, by rw [sizeLine_eq]; exact Nat.le_of_ble_eq_true rfl, fun p' hp' => ?_⟩))
  exact k p' q1 _ ((s1.trans s2).trans (same_new hp')) upd_same (same_new hp' _ _ (s2 _ _ upd_same)) hq1
theorem last_yes {Z : Ends} {σ : St} {H : Hp} (h : Held K a D d σ H) (C : ExcC K D) (hk : PySem.W.kitOne K (.ref D) (.type "ValueError") = some true) {q : Addr} {u : V} (h3 : σ[3]? = some (some (.ref q))) (hq : H q = some (.lst [u])) (k : Z.rt u H) : tLast K a (.ref D) d Z σ H := by
  refine ⟨_, h3, q, [u], rfl, .inl (SqL.of hq), rfl, true, rfl, ?_⟩
  refine ite_t (isX_go h C (ty_rel _) hk ⟨true, rfl, ite_t ⟨_, h3, q, [u], 0, u, rfl, rfl, SqL.of hq, rfl, k⟩⟩)
theorem ents_some {Z : Ends} (C : ExcC K D) (hV : PySem.W.kitOne K (.ref D) (.type "ValueError") = some true) {u : V} : ∀ (es : List Ent) (σ : St) (H : Hp) (q : Addr), Held K a D d σ H → (∀ e ∈ es, PySem.W.kitOne K (.ref D) (.ref e.C) = some false) → σ[3]? = some (some (.ref q)) → H q = some (.lst [u]) →
    (∀ H', Same H H' → Z.rt u H') → tEnts K a (.ref D) d es Z σ H
  | [], σ, H, q, h, _, h3, hq, k => last_yes h C hV h3 hq (k H (Same.refl H))
  | e :: es, σ, H, q, h, hk, h3, hq, k => ent_no h C (hk e List.mem_cons_self) h3 hq (by simp) fun q' H' s hq' =>
    ents_some C hV es _ _ q' (h.same s _) (fun e' he => hk e' (List.mem_cons_of_mem _ he)) (h.set3 _) hq' fun H2 s2 => k H2 (s.trans s2)
theorem ents_none {Z : Ends} (C : ExcC K D) (hV : PySem.W.kitOne K (.ref D) (.type "ValueError") = some true) {e : Ent} {post : List Ent} {v : V} : ∀ (pre : List Ent) (σ : St) (H : Hp) (q : Addr), Held K a D d σ H → (∀ e ∈ pre, PySem.W.kitOne K (.ref D) (.ref e.C) = some false) → PySem.W.kitOne K (.ref D) (.ref e.C) = some true → (∀ e ∈ post, PySem.W.kitOne K (.ref D) (.ref e.C) = some false) →
    σ[3]? = some (some (.ref q)) → H q = some (.lst []) → (match e.f with | none => v = .non | some fl => D = e.C ∧ ∃ dd, d = some dd ∧ H dd = some (.xd [(fl, v)])) →
    (∀ q1 H', Same H H' → H' q1 = some (.lst [.str e.w, v]) → H q1 = none → Z.rt (.ref q1) H') → tEnts K a (.ref D) d (pre ++ e :: post) Z σ H
  | [], σ, H, q, h, _, hk, hp, h3, hq, hv, k => ent_yes h C hk h3 hq hv fun q' q1 H' s hq' hq1 hn =>
    ents_some C hV post _ _ q' (h.same s _) hp (h.set3 _) hq' fun H2 s2 => k q1 H2 (s.trans s2) (s2 _ _ hq1) hn
  | e' :: pre, σ, H, q, h, hpre, hk, hp, h3, hq, hv, k => ent_no h C (hpre e' List.mem_cons_self) h3 hq (by simp) fun q' H' s hq' =>
    ents_none C hV pre _ _ q' (h.same s _) (fun e' he => hpre e' (List.mem_cons_of_mem _ he)) hk hp (h.set3 _) hq' (by
      cases hf : e.f with
      | none => rw [hf] at hv; exact hv
      | some fl =>
        rw [hf] at hv
        obtain ⟨e1, dd, e2, e3⟩ := hv
        exact ⟨e1, dd, e2, s _ _ e3⟩) fun q1 H2 s2 hq1 hn => k q1 H2 (s.trans s2) hq1 (by
      cases z : H q1 with
      | none => rfl
      | some o => rw [s _ _ z] at hn; cases hn)
theorem heard_go {Z : Ends} (C : ExcC K D) (hV : PySem.W.kitOne K (.ref D) (.type "ValueError") = some true) {e : Ent} {pre post : List Ent} {v : V} {σ : St} {H : Hp} (h : Held K a D d σ H) (hpre : ∀ e ∈ pre, PySem.W.kitOne K (.ref D) (.ref e.C) = some false) (hk : PySem.W.kitOne K (.ref D) (.ref e.C) = some true) (hp : ∀ e ∈ post, PySem.W.kitOne K (.ref D) (.ref e.C) = some false)
    (hv : match e.f with | none => v = .non | some fl => D = e.C ∧ ∃ dd, d = some dd ∧ H dd = some (.xd [(fl, v)]))
    (k : ∀ q1 H', Same H H' → H' q1 = some (.lst [.str e.w, v]) → H q1 = none → Z.rt (.ref q1) H') : tHeard K (pre ++ e :: post) a (.ref D) d Z σ H := by
  refine ⟨by decide, fun p hp0 => ?_⟩
  have s := same_new (o := .lst []) hp0
  refine ents_none C hV pre _ _ p (h.same s _) hpre hk hp (h.set3 _) upd_same (by
      cases hf : e.f with
      | none => rw [hf] at hv; exact hv
      | some fl =>
        rw [hf] at hv
        obtain ⟨e1, dd, e2, e3⟩ := hv
        exact ⟨e1, dd, e2, s _ _ e3⟩) fun q1 H2 s2 hq1 hn => k q1 H2 (s.trans s2) hq1 (by
      cases z : H q1 with
      | none => rfl
      | some o => rw [s _ _ z] at hn; cases hn)
end
/-! ### the statement -/
/-- a try whose suite returns what hm gives of the error -/
def sTry (mb : DEnv → M Fl) (hm : Str → Option (Str × D) → Option D) (ε : DEnv) : M Fl := fun p => match mb ε p with
  | .ok (.xc c d ε') p' => (match (if ε'.length = 4 then hm c d else none) with
    | some v => .ok (.rt v) p'
    | none => .bad)
  | o => o
/-- what a class's errors give: word and field -/
structure XRow where
  c : Str
  w : Str
  f : Option Str
def hmOf (rows : List XRow) (c : Str) (d : Option (Str × D)) : Option D := match rows.find? (fun r => r.c == c), d with
  | some ⟨_, w, none⟩, none => some (.lst [.str w, .non])
  | some ⟨_, w, some fl⟩, some (fl', v) => if fl' = fl then some (.lst [.str w, v]) else none
  | _, _ => none
/-- the facts of the classes -/
structure RowsOk (K : PySem.W.Frag) (mg : Str → Option Value) (base : Value) (rows : List XRow) (es : List Ent) : Prop where
  len : es.map (fun e => (e.w, e.f)) = rows.map (fun r => (r.w, r.f))
  ok : ∀ (pre post : List XRow) (r : XRow), rows = pre ++ r :: post → ∃ (pe qe : List Ent) (e : Ent), es = pe ++ e :: qe ∧ e.w = r.w ∧ e.f = r.f ∧ mg r.c = some (.ref e.C) ∧ ExcC K e.C ∧ PySem.W.exmOne K (.ref e.C) base = some true ∧ PySem.W.kitOne K (.ref e.C) (.type "ValueError") = some true ∧
    (∀ z ∈ pe, PySem.W.kitOne K (.ref e.C) (.ref z.C) = some false) ∧ PySem.W.kitOne K (.ref e.C) (.ref e.C) = some true ∧ (∀ z ∈ qe, PySem.W.kitOne K (.ref e.C) (.ref z.C) = some false)
section
variable {X : Cx} {x n : Str} {c : Value} {body suite : List Stmt} {b₀ : Stmt} {np pos pos' : Pos} {mb : DEnv → M Fl} {rows : List XRow} {es : List Ent} {Wout : WX}
theorem pds_try (R : RowsOk X.K X.mg c rows es) (hs : X.stack = X.env :: X.outer) (hf : X.env.frame = some X.env.locals) (hN : X.N.Nodup) (hl : X.N.length = 4) (hi : X.N[2]? = some n) (hln : X.env.kindOf n = some .local) (hc : Names X x c) (tk : Takes X Wout)
    (hb : ∀ (W : WX) (pn : List (Addr × Obj)) (xe : Value → Shared → Prop), Takes (X.tr pn xe) W → PassesOwn (model X.prog X.w) X.A X.env xe → PDSs (X.tr pn xe) W [] body mb)
    (hsu : ∀ (a : Addr) (oe : Obj) (cls : Value) (d : Option Addr) (pn : List (Addr × Obj)), Zc cls d oe → (∃ vs, oe.data = .fields vs) → PSs (X.suite a ((a, oe) :: pn)) (b₀ :: suite) (tHeard X.K es a cls d)) :
    PDS X Wout [] (.Try body [.ExceptHandler (some (.Name x np)) (some n) (b₀ :: suite) pos'] [] [] pos) (sTry mb (hmOf rows)) :=
  (ps_try_as (i := 2) (tb := fun W => tS X.K X.mg W [] mb) (Wout := Wout) hs hf hN hi hln hc tk hb hsu).imp fun Z σ H ⟨P, ε, p, r, q⟩ => by
  refine ⟨P, ε, p, r, ?_⟩
  unfold sTry at q
  cases em : mb ε p with
  | bad => rw [em] at q; exact q
  | ex c d p' => rw [em] at q; exact q
  | ok fl p' =>
    rw [em] at q
    cases fl with
    | nx ε' => exact q
    | rt d => exact q
    | bk ε' => exact q
    | ct ε' => exact q
    | xc c0 d0 ε' =>
      intro σ' cv dx H' r' g' ex
      simp only at q
      by_cases hl4 : ε'.length = 4
      · rw [if_pos hl4] at q
        cases eh : hmOf rows c0 d0 with
        | none => rw [eh] at q; exact q.elim
        | some v0 =>
          rw [eh] at q
          have q : ∀ v H', Kp (AA P) P.H0 H' → PoolOk P.g H' p' → Rep P.g (L0 P) H' v0 v → Z.rt v H' := q
          obtain ⟨C, gC, rfl, hd⟩ := ex
          unfold hmOf at eh
          cases ef : rows.find? (fun r => r.c == c0) with
          | none => rw [ef] at eh; cases eh
          | some row =>
            rw [ef] at eh
            obtain ⟨hrow, pre, post, erows, _⟩ := List.find?_eq_some_iff_append.mp ef
            obtain ⟨pe, qe, e, rfl, ew, efl, gc, EC, hx, hV, hpre, hk, hpost⟩ := R.ok pre post row erows
            have ec : row.c = c0 := by simpa using hrow
            rw [ec, gC] at gc
            cases gc
            refine ⟨true, hx, fun _ a na => ?_, fun z => nomatch z⟩
            have hlen : σ'.length = 4 := by rw [← r'.len]; exact hl4
            have HH : Held X.K a e.C dx (σ'.set 2 (some (.ref a))) H' := ⟨by rw [List.length_set]; exact hlen, by rw [List.getElem?_set_self (by rw [hlen]; decide)], fun dd e' => by
              cases d0 with
              | none => rw [hd] at e'; cases e'
              | some d' =>
                obtain ⟨y, v, h1, h2, h3⟩ := hd
                rw [h1] at e'
                cases e'
                exact ⟨_, h2⟩⟩
            obtain ⟨rc, w0, rf⟩ := row
            dsimp only at ew efl
            have fin : ∀ (y : D) (v : V), v0 = .lst [.str w0, y] → Rep P.g (L0 P) H' y v → ∀ (q1 : Addr) (H2 : Hp), Same H' H2 → H2 q1 = some (.lst [.str e.w, v]) → H' q1 = none → Z.rt (.ref q1) H2 := fun y v e0 ry q1 H2 s2 hq1 hn => by
              refine q _ _ (r'.keep.trans (Kp.same s2)) (r'.pool.kp s2) ?_
              rw [e0]
              unfold Rep
              refine ⟨q1, _, rfl, ⟨fun z => r'.there q1 z hn, hq1⟩, ?_⟩
              rw [ew]
              exact Reps.cons (by unfold Rep; rfl) (Reps.cons (Rep.mono (Kp.same s2) (fun _ h => .inl h) y v ry) Reps.nil)
            cases rf with
            | none =>
              cases d0 with
              | none =>
                cases eh
                exact heard_go EC hV HH hpre hk hpost (v := .non) (by rw [efl]) (fin .non .non rfl (by unfold Rep; rfl))
              | some d' => cases eh
            | some fl =>
              cases d0 with
              | none => cases eh
              | some d' =>
                obtain ⟨fl', y⟩ := d'
                simp only at eh
                split at eh
                · rename_i hfl
                  subst hfl
                  cases eh
                  obtain ⟨dd, v, h1, h2, h3⟩ := hd
                  exact heard_go EC hV HH hpre hk hpost (v := v) (by rw [efl]; exact ⟨rfl, dd, h1, h2⟩) (fin y v rfl h3)
                · cases eh
      · rw [if_neg hl4] at q; exact q.elim
end
end DL

end
section
/-! # repr of an empty dict; the facts of classes -/
namespace DL
open PySem PySem.Spec L2
def reprX : List D → Option D
  | [.dct [] []] => some (.str "{}")
  | ds => reprD ds
def rReprE : List V → Hp → VK → Prop := fun xs H Q => ∃ q, xs = [.ref q] ∧ H q = some (.dK []) ∧ Q (.str "{}") H
theorem call_reprE {X : Cx} (hgd : X.A.guards = some []) (hu : X.A.units + 65 < cLine) : CallR X (.builtin "repr") rReprE := by
  intro pins s σ H xs us Q I r h
  obtain ⟨a, rfl, hd, q⟩ := h
  obtain ⟨u, rfl, ru⟩ := vone r
  cases ru
  obtain ⟨_, hm, vs, rel, o, es, ep, ho, ⟨hx, _⟩, hdat, hks, hps, hnd⟩ := dk_of I.hok hd
  cases rel
  have he : es.toList = [] := by
    have z := hps
    cases hl : es.toList with
    | nil => rfl
    | cons x r => rw [hl] at z; cases z
  have rd : Reads s.heap (.ref a) (.dict []) (a :: [] ++ []) := Reads.dict ho (by simpa using hx) hdat (by rw [he]; exact .nil) (by rw [he]; exact .nil)
  have l1 := line1m
  exact PySem.repr_of_reads' rd rfl (fun _ z => by simp at z; rw [← z] at hm; simp at hm) hgd (by show X.A.units + (1 + 1) < cLine; omega) (fun b o e => e) (fun h' u tk hk => ⟨.str _, H, I.kept (t' := tk) hk, ⟨_, rfl⟩, q⟩) (by show 2 ≤ sizeLine; omega)
theorem o_reprX {K : PySem.W.Frag} {mg : Str → Option Value} : OpN K mg (fun xs H Q => rRepr K xs H Q ∨ rReprE xs H Q) reprX := by
  intro a L H xs d vs Q hL r e q
  unfold reprX at e
  split at e
  · cases e
    obtain ⟨v, rfl, rv⟩ := r.one
    unfold Rep at rv
    obtain ⟨p, kvs, rfl, n, hH, r1, r2⟩ := rv
    have hk : kvs = [] := by
      cases kvs with
      | nil => rfl
      | cons x y => unfold Reps at r1; cases r1
    subst hk
    exact .inr ⟨p, rfl, hH, q _ H (Same.refl H) (by unfold Rep; rfl)⟩
  · exact .inl (o_repr a L H xs d vs Q hL r e q)
section
variable {X : Cx} {W : WX} {own : List Nat} {e : Expr} {es : List Expr} {pos p : Pos} {fs : DEnv → M (List D)}
theorem pd_reprX (hgd : X.A.guards = some []) (hu : X.A.units + 65 < cLine) (hm : X.mg "repr" = none) (ha : PDA X W own (e :: es) fs) (hg : Gl X "repr" := by rfl) (he : starEach (e :: es) X.env = (false, eval e X.env) :: starEach es X.env := by rfl) (hpl : (backTo pos (starEach es X.env)).any (·.1) = false := by rfl) :
    PD X W own (.Call (.Name "repr" p) (e :: es) [] pos) (dA reprX fs) := pd_callB ((call_reprD hgd hu).or (call_reprE hgd hu)) o_reprX hm (by rfl) ha hg (by decide) (by decide) he hpl
end
/-! ### facts of classes, from what the written part says -/
theorem refsVE_one (B : Addr) : HandSPX.refsVE [.ref B, .type "ValueError", .type "Exception", .type "BaseException", .type "object"] = true := by
  show HandSPX.refsVE [.type "ValueError", .type "Exception", .type "BaseException", .type "object"] = true
  decide +kernel
theorem kit_self {K : PySem.W.Frag} (c : Value) : PySem.W.kitOne K c c = some true := by
  unfold PySem.W.kitOne
  rw [if_pos (by simp)]
theorem rowsOk_of {K : PySem.W.Frag} {mg : Str → Option Value} {base : Value} {data : List (XRow × Addr)} (nd : (data.map (·.1.w)).Nodup)
    (A : ∀ x ∈ data, mg x.1.c = some (.ref x.2) ∧ ExcC K x.2 ∧ PySem.W.exmOne K (.ref x.2) base = some true ∧ PySem.W.kitOne K (.ref x.2) (.type "ValueError") = some true)
    (B : ∀ x ∈ data, ∀ y ∈ data, x.1.w ≠ y.1.w → PySem.W.kitOne K (.ref x.2) (.ref y.2) = some false) : RowsOk K mg base (data.map (·.1)) (data.map fun x => ⟨x.2, x.1.w, x.1.f⟩) := by
  refine ⟨by rw [List.map_map, List.map_map]; rfl, fun pre post r e => ?_⟩
  obtain ⟨d1, d2, rfl, h1, h2⟩ := List.map_eq_append_iff.mp e
  cases d2 with
  | nil => cases h2
  | cons x d2 =>
    rw [List.map_cons] at h2
    cases h2
    have hx : x ∈ d1 ++ x :: d2 := by simp
    obtain ⟨a1, a2, a3, a4⟩ := A x hx
    have neq : ∀ y ∈ d1 ++ d2, x.1.w ≠ y.1.w := fun y hy => by
      intro z
      rw [List.map_append, List.map_cons] at nd
      have nd2 := List.nodup_append.mp nd
      rcases List.mem_append.mp hy with hy | hy
      · exact nd2.2.2 _ (List.mem_map.mpr ⟨y, hy, rfl⟩) _ List.mem_cons_self z.symm
      · exact (List.nodup_cons.mp nd2.2.1).1 (List.mem_map.mpr ⟨y, hy, z.symm⟩)
    refine ⟨d1.map fun x => ⟨x.2, x.1.w, x.1.f⟩, d2.map fun x => ⟨x.2, x.1.w, x.1.f⟩, ⟨x.2, x.1.w, x.1.f⟩, by rw [List.map_append, List.map_cons], rfl, rfl, a1, a2, a3, a4, ?_, ?_, ?_⟩
    · rintro z hz
      obtain ⟨y, hy, rfl⟩ := List.mem_map.mp hz
      exact B x hx y (by simp [hy]) (neq y (by simp [hy]))
    · exact kit_self _
    · rintro z hz
      obtain ⟨y, hy, rfl⟩ := List.mem_map.mp hz
      exact B x hx y (by simp [hy]) (neq y (by simp [hy]))
end DL

end
section
/-! # a, b = a list -/
namespace LU
open PySem PyProof.Rows
section
variable {prog : Program} {w : World} {A : Around} {E : Value → Shared → Prop} {s : Shared}
theorem draw_list {it t : Addr} {items : Array Value} (hne : t ≠ it) : ∀ (n i : Nat) (s : Shared) (Q : List Value → Shared → Prop), s.heap.IsListIter it t i → s.heap.IsList t items → i + n ≤ items.size →
    (∀ h', h'.IsListIter it t (i + n) → Heap.SameBut it s.heap h' → Q ((items.toList.drop i).take n) { s with heap := h' }) → wpAny (model prog w) A (draw (.ref it) n) Q E s
  | 0, i, s, Q, hit, _, _, hQ => by
    show wpAny _ _ (pure []) Q E s
    exact wpAny_pure (by simpa using hQ s.heap hit (Heap.SameBut.refl ..))
  | n + 1, i, s, Q, hit, ht, hle, hQ => by
    have hlt : i < items.size := by omega
    show wpAny _ _ (pyNext (.ref it) >>= _) Q E s
    refine wpAny_bind (wpAny_pyNext_list_item hit ht (x := items[i]) (by simp [hlt]) fun h₁ hit₁ hs₁ => ?_)
    refine wpAny_bind (wpAny_holding (draw_list hne n (i + 1) _ _ hit₁ (ht.extBut hs₁.extBut hne) (by omega) fun h₂ hit₂ hs₂ => wpAny_pure ?_))
    have hd : items.toList.drop i = items[i] :: items.toList.drop (i + 1) := by simp [List.drop_eq_getElem_cons, hlt]
    have := hQ h₂ (by rw [show i + (n + 1) = i + 1 + n by omega]; exact hit₂) (hs₁.trans hs₂)
    rw [hd, List.take_succ_cons] at this
    exact this
theorem unpackItems_list {t : Addr} {items : Array Value} {Q : List Value → Shared → Prop} (hh : A.handled = none) (ht : s.heap.IsList t items)
    (hQ : ∀ h', Heap.ExtBut s.heap.objs.size s.heap h' → Q items.toList { s with heap := h' }) : wpAny (model prog w) A (unpackItems (.ref t) items.size none) Q E s := by
  have hlt : t ≠ s.heap.objs.size := by obtain ⟨o, ho, _⟩ := ht; exact Nat.ne_of_lt (Heap.lt_size ho)
  unfold unpackItems
  refine wpAny_bind ?_
  · unfold notIterableAtAll
    refine wpAny_bind (wpAny_specialOf ht.typeIs slot_list_iter.lookup ?_)
    refine wpAny_pure ?_
    simp only [Bool.false_eq_true, if_false]
    refine wpAny_bind (wpAny_holding (wpAny_pyIter_list ht ?_))
    refine wpAny_bind (wpAny_holding (draw_list hlt items.size 0 _ _ ⟨_, Heap.get?_push_size _ rfl, rfl, rfl⟩ (ht.push _) (by omega) fun h₁ hit₁ hs₁ => ?_))
    have hall : List.take items.size (List.drop 0 items.toList) = items.toList := by
      rw [List.drop_zero]; exact List.take_of_length_le (by simp)
    rw [hall]
    rw [if_neg (by simp)]
    have ht₁ : h₁.IsList t items := (ht.push _).extBut hs₁.extBut hlt
    refine wpAny_bind (wpAny_holding (wpAny_pyNext_list_end hh hit₁ ht₁ (by simp) fun h₂ he₂ => ?_))
    simp only [Option.isSome_none, Bool.false_eq_true, if_false]
    refine wpAny_pure (hQ h₂ fun b o hb e => he₂ b o hb (hs₁.extBut b o hb (Heap.get?_push_of_some _ e)))
theorem assign_Tuple_list {env : Env} {elts : List Expr} {x1} {pos : Pos} {t : Addr} {items : Array Value} {Q : Unit → Shared → Prop} (hh : A.handled = none) (ht : s.heap.IsList t items)
    (hn : (assignEach elts env).length = items.size) (hstar : (assignEach elts env).findIdx? (·.1) = none)
    (h : ∀ h', Heap.ExtBut s.heap.objs.size s.heap h' → wpAny (model prog w) A (assignInOrder ((assignEach elts env).map (·.2)) items.toList) Q E { s with heap := h' }) :
    wpAny (model prog w) A (assign (.Tuple elts x1 pos) env (.ref t)) Q E s := by
  rw [PyProof.Rows.assign_Tuple]
  refine wpAny_bind (wpAny_standAt ?_)
  unfold unpack
  rw [hn, hstar]
  exact wpAny_bind (wpAny_holding (unpackItems_list hh ht h))
end
end LU
namespace DL
open PySem PySem.Spec L2
/-- (a, b, ..) = a list of that length -/
def gTupL (K : PySem.W.Frag) (n : Nat) (t : TGs) : TG := fun v σ H Q => ∃ a xs, v = .ref a ∧ SqL K H a xs ∧ xs.length = n ∧ t xs σ H Q
theorem pg_tupL {X : Cx} {es : List Expr} {k : Nat} {t : TGs} {n : Nat} {pos : Pos} (hc : X.calm = true) (h : PGs X es t)
    (hn : (assignEach es X.env).length = n := by rfl) (hst : (assignEach es X.env).findIdx? (·.1) = none := by rfl) : PG X (.Tuple es k pos) (gTupL X.K n t) := by
  refine ⟨fun pins s σ H v u Q I r hw => ?_⟩
  obtain ⟨a, xs, e1, hq, hl, hw⟩ := hw
  subst e1
  cases r
  obtain ⟨its, rv, ht, hz⟩ := I.list hq
  refine LU.assign_Tuple_list (I.ok.hd hc) ht.isList (by simp [hn, ← hl, rv.length]) hst fun h' hx => ?_
  have I1 : Inv X pins σ H { s with heap := h' } := I.kept (t' := s.toks) fun b o e => hx b o (Nat.ne_of_lt (Heap.lt_size e)) e
  exact h.run pins _ σ H xs _ Q I1 (by simpa using rv) hw
theorem pg_or {X : Cx} {e : Expr} {t u : TG} (h : PG X e t) (h2 : PG X e u) : PG X e (fun v σ H Q => t v σ H Q ∨ u v σ H Q) :=
  ⟨fun pins s σ H v u Q I r hw => hw.elim (h.run pins s σ H v u Q I r) (h2.run pins s σ H v u Q I r)⟩
/-- a tuple or a list -/
def pX (ts : List Pat) : Pat := fun d ε => match d with
  | .tup ds => pAll ts ds ε
  | .lst ds => pAll ts ds ε
  | _ => none
@[simp] theorem pX_t (ts : List Pat) (ds : List D) (ε : DEnv) : pX ts (.tup ds) ε = pAll ts ds ε := rfl
@[simp] theorem pX_l (ts : List Pat) (ds : List D) (ε : DEnv) : pX ts (.lst ds) ε = pAll ts ds ε := rfl
section
variable {X : Cx} {own ts : List Nat} {es : List Expr} {pos : Pos} {tt : List Pat}
theorem pdg_tupX {k : Nat} (hc : X.calm = true) (h : PDGs X own ts es tt) (hn : (assignEach es X.env).length = tt.length := by rfl) (hst : (assignEach es X.env).findIdx? (·.1) = none := by rfl) : PDG X own ts (.Tuple es k pos) (pX tt) :=
  (pg_or (pg_tup hc h (n := tt.length) hn hst) (pg_tupL hc h (n := tt.length) hn hst)).imp fun v σ H Q ⟨P, ε, p, d, ε', r, rv, e, q⟩ => by
  unfold pX at e
  split at e
  · rename_i ds
    unfold Rep at rv
    obtain ⟨y, vs, rfl, ta, rs⟩ := rv
    exact .inl ⟨y, vs, rfl, ta.sq, by rw [rs.length, pAll_length e], P, ε, p, ds, ε', r, rs, e, q⟩
  · rename_i ds
    unfold Rep at rv
    obtain ⟨y, vs, rfl, ta, rs⟩ := rv
    exact .inr ⟨y, vs, rfl, ta.sq, by rw [rs.length, pAll_length e], P, ε, p, ds, ε', r, rs, e, q⟩
  · cases e
end
end DL

end
section
namespace K01
open PySem PySem.Spec L2 DL MW
def rows__law_heard : List XRow := [⟨"InvalidFraction", "fraction", some "given"⟩]
def e__law_named_1 : DEnv → M D :=
  (dA lstO (dCons (dVar 2) (dCons (dVar 1) (dCons (dVar 2) dNil))))
def p__law_named : List (DEnv → M Fl) := []
def r__law_named : DEnv → M D := (dLc (iSeq (dVar 0)) [2] (pN false 2) dYes e__law_named_1)
def m__law_named : List D → M D := runV p__law_named r__law_named 3
def p__law_no_fractions : List (DEnv → M Fl) := []
def r__law_no_fractions : DEnv → M D := (dA lstO (dCons (dC .non) (dCons (dA tupO dNil) (dCons (dC (.int 0)) (dCons (dC (.int 5)) (dCons (dC (.str "1/2")) (dCons (dC (.bl true)) (dCons (dA tupO (dCons (dC (.int 1)) dNil)) (dCons (dA tupO (dCons (dC (.int 1)) (dCons (dC (.int 2)) (dCons (dC (.int 3)) dNil)))) (dCons (dA lstO (dCons (dC (.int 1)) (dCons (dC (.int 2)) dNil))) (dCons (dA tupO (dCons (dC (.int 2)) (dCons (dC (.int 4)) dNil))) (dCons (dA tupO (dCons (dC (.int 1)) (dCons (dC (.int 0)) dNil))) (dCons (dA tupO (dCons (dC (.int 1)) (dCons (d1 negD (dC (.int 2))) dNil))) (dCons (dA tupO (dCons (dC (.int 0)) (dCons (dC (.int 2)) dNil))) (dCons (dA tupO (dCons (dC (.bl true)) (dCons (dC (.int 1)) dNil))) (dCons (dA tupO (dCons (dC (.int 1)) (dCons (dC (.bl true)) dNil))) (dCons (dA tupO (dCons (dC .non) (dCons (dC (.int 1)) dNil))) (dCons (dA tupO (dCons (dC (.str "1")) (dCons (dC (.int 1)) dNil))) (dCons (dC (.dct [] [])) dNil)))))))))))))))))))
def m__law_no_fractions : List D → M D := runV p__law_no_fractions r__law_no_fractions 0
def b__law_draw : DEnv → M Fl :=
  (sSeq (sIf (dB (d2 gtD (dPool 0 (dC (.int 1))) (dC (.int 0)))) (sSeq (sPoolPair 0 2 (dC (.int 1)) (dA divmodD (dCons (dPool 0 (dC (.int 1))) (dCons (dVar 1) dNil)))) (sRet (dVar 2))) sNil) (sSeq (sPool 0 (dC (.int 2)) (d2 addD (dPool 0 (dC (.int 2))) (dC (.int 1)))) (sSeq (sSet false 3 (dA intD (dCons (dPool 0 (dC (.int 0))) dNil))) (sSeq (sPool 0 (dC (.int 0)) (d2 modD (dA intD (dCons (d2 addD (d2 addD (d2 mulD (dVar 3) (d2 addD (d2 modD (dVar 3) (dC (.int 20011))) (dC (.int 30011)))) (d2 mulD (dC (.int 70001)) (dPool 0 (dC (.int 2))))) (dC (.int 9))) dNil)) (dC (.int 2147483497)))) (sRet (d2 modD (dA intD (dCons (d2 fdivD (dPool 0 (dC (.int 0))) (dC (.int 128))) dNil)) (dVar 1)))))))
def m__law_draw : List D → M D := runB b__law_draw 4
def b_check_fraction : DEnv → M Fl :=
  (sIf (dNot (dB (dCall 1 MW.m_is_fraction_of (dCons (dVar 0) dNil)))) (sRaise "InvalidFraction" "given" (dVar 0)) sNil)
def m_check_fraction : List D → M D := runB b_check_fraction 1
def b_check_two : DEnv → M Fl :=
  (sSeq (sDrop (dCall 1 m_check_fraction (dCons (dVar 0) dNil))) (sDrop (dCall 1 m_check_fraction (dCons (dVar 1) dNil))))
def m_check_two : List D → M D := runB b_check_two 2
def b_is_below : DEnv → M Fl :=
  (sSeq (sDrop (dCall 2 m_check_two (dCons (dVar 0) (dCons (dVar 1) dNil)))) (sRet (d2 ltD (d2 mulD (d2 ixD (dVar 0) (dC (.int 0))) (d2 ixD (dVar 1) (dC (.int 1)))) (d2 mulD (d2 ixD (dVar 1) (dC (.int 0))) (d2 ixD (dVar 0) (dC (.int 1)))))))
def m_is_below : List D → M D := runB b_is_below 2
def b_over : DEnv → M Fl :=
  (sSeq (sDrop (dCall 2 m_check_two (dCons (dVar 0) (dCons (dVar 1) dNil)))) (sSeq (sIf (dB (d2 (eqD false) (dVar 1) (dC (.tup [(.int 0), (.int 1)])))) (sRaise "InvalidFraction" "given" (dVar 1)) sNil) (sRet (dCall 2 MW.m_plain_of (dCons (d2 mulD (d2 ixD (dVar 0) (dC (.int 0))) (d2 ixD (dVar 1) (dC (.int 1)))) (dCons (d2 mulD (d2 ixD (dVar 0) (dC (.int 1))) (d2 ixD (dVar 1) (dC (.int 0)))) dNil))))))
def m_over : List D → M D := runB b_over 2
def b_times : DEnv → M Fl :=
  (sSeq (sDrop (dCall 2 m_check_two (dCons (dVar 0) (dCons (dVar 1) dNil)))) (sRet (dCall 2 MW.m_plain_of (dCons (d2 mulD (d2 ixD (dVar 0) (dC (.int 0))) (d2 ixD (dVar 1) (dC (.int 0)))) (dCons (d2 mulD (d2 ixD (dVar 0) (dC (.int 1))) (d2 ixD (dVar 1) (dC (.int 1)))) dNil)))))
def m_times : List D → M D := runB b_times 2
def b_less : DEnv → M Fl :=
  (sSeq (sDrop (dCall 2 m_check_two (dCons (dVar 0) (dCons (dVar 1) dNil)))) (sRet (dCall 2 MW.m_plain_of (dCons (d2 subD (d2 mulD (d2 ixD (dVar 0) (dC (.int 0))) (d2 ixD (dVar 1) (dC (.int 1)))) (d2 mulD (d2 ixD (dVar 1) (dC (.int 0))) (d2 ixD (dVar 0) (dC (.int 1))))) (dCons (d2 mulD (d2 ixD (dVar 0) (dC (.int 1))) (d2 ixD (dVar 1) (dC (.int 1)))) dNil)))))
def m_less : List D → M D := runB b_less 2
def b_plus : DEnv → M Fl :=
  (sSeq (sDrop (dCall 2 m_check_two (dCons (dVar 0) (dCons (dVar 1) dNil)))) (sRet (dCall 2 MW.m_plain_of (dCons (d2 addD (d2 mulD (d2 ixD (dVar 0) (dC (.int 0))) (d2 ixD (dVar 1) (dC (.int 1)))) (d2 mulD (d2 ixD (dVar 1) (dC (.int 0))) (d2 ixD (dVar 0) (dC (.int 1))))) (dCons (d2 mulD (d2 ixD (dVar 0) (dC (.int 1))) (d2 ixD (dVar 1) (dC (.int 1)))) dNil)))))
def m_plus : List D → M D := runB b_plus 2
def b_plain : DEnv → M Fl :=
  (sSeq (sIf (dNot (dB (dCall 1 MW.m_is_whole (dCons (dVar 0) dNil)))) (sRaise "InvalidFraction" "given" (dVar 0)) sNil) (sSeq (sIf (dOr (dNot (dB (dCall 1 MW.m_is_whole (dCons (dVar 1) dNil)))) (dB (d2 (eqD false) (dVar 1) (dC (.int 0))))) (sRaise "InvalidFraction" "given" (dVar 1)) sNil) (sRet (dCall 2 MW.m_plain_of (dCons (dVar 0) (dCons (dVar 1) dNil))))))
def m_plain : List D → M D := runB b_plain 2
def tab_law : Str → Option (Nat × (List D → M D)) := fun x => if x = "is_below" then some (2, m_is_below) else if x = "less" then some (2, m_less) else if x = "over" then some (2, m_over) else if x = "plain" then some (2, m_plain) else if x = "plus" then some (2, m_plus) else if x = "times" then some (2, m_times) else none
def b__law_heard : DEnv → M Fl :=
  (sSeq (sTry (sIf (dB (d2 (eqD false) (dA lenD (dCons (dVar 1) dNil)) (dC (.int 1)))) (sDrop (dCallV tab_law 0 (dCons (d2 ixD (dVar 1) (dC (.int 0))) dNil))) (sIf (dB (d2 (eqD false) (dA lenD (dCons (dVar 1) dNil)) (dC (.int 2)))) (sDrop (dCallV tab_law 0 (dCons (d2 ixD (dVar 1) (dC (.int 0))) (dCons (d2 ixD (dVar 1) (dC (.int 1))) dNil)))) (sIf (dB (d2 (eqD false) (dA lenD (dCons (dVar 1) dNil)) (dC (.int 3)))) (sDrop (dCallV tab_law 0 (dCons (d2 ixD (dVar 1) (dC (.int 0))) (dCons (d2 ixD (dVar 1) (dC (.int 1))) (dCons (d2 ixD (dVar 1) (dC (.int 2))) dNil))))) (sIf (dB (d2 (eqD false) (dA lenD (dCons (dVar 1) dNil)) (dC (.int 4)))) (sDrop (dCallV tab_law 0 (dCons (d2 ixD (dVar 1) (dC (.int 0))) (dCons (d2 ixD (dVar 1) (dC (.int 1))) (dCons (d2 ixD (dVar 1) (dC (.int 2))) (dCons (d2 ixD (dVar 1) (dC (.int 3))) dNil)))))) (sDrop (dCallV tab_law 0 (dCons (d2 ixD (dVar 1) (dC (.int 0))) (dCons (d2 ixD (dVar 1) (dC (.int 1))) (dCons (d2 ixD (dVar 1) (dC (.int 2))) (dCons (d2 ixD (dVar 1) (dC (.int 3))) (dCons (d2 ixD (dVar 1) (dC (.int 4))) dNil))))))))))) (hmOf rows__law_heard)) (sRet (dA lstO (dCons (dC (.str "told")) (dCons (dC .non) dNil)))))
def m__law_heard : List D → M D := runB b__law_heard 4
def b__law_pick : DEnv → M Fl :=
  (sRet (d2 ixD (dVar 1) (dCall 2 m__law_draw (dCons (dVar 0) (dCons (dA lenD (dCons (dVar 1) dNil)) dNil)))))
def m__law_pick : List D → M D := runB b__law_pick 2
def c__law_refused_right_1 : DEnv → M Bool :=
  (dB (d2 (eqD false) (dCall 2 m__law_draw (dCons (dVar 0) (dCons (dC (.int 2)) dNil))) (dC (.int 0))))
def e__law_refused_right_2 : DEnv → M D :=
  (dVar 11)
def l__law_refused_right_3 : DEnv → M Fl :=
  (sSeq (sSet false 8 (dCall 2 m__law_heard (dCons (dVar 1) (dCons (d2 addD (d2 addD (dSl (dVar 2) oNone (oSome (dVar 4))) (dA tupO (dCons (dVar 5) dNil))) (dSl (dVar 2) (oSome (d2 addD (dVar 4) (dC (.int 1)))) oNone)) dNil)))) (sIf (dOr (dB (d2 (eqD true) (d2 ixD (dVar 8) (dC (.int 0))) (dVar 6))) (dB (d2 (eqD true) (dA reprX (dCons (d2 ixD (dVar 8) (dC (.int 1))) dNil)) (dA reprX (dCons (dVar 7) dNil))))) (sRet (dC (.bl false))) sNil))
def l__law_refused_right_4 : DEnv → M Fl :=
  (sFor (iSeq (dLc (iSeq (d2 ixD (dVar 3) (dVar 4))) [11] (pN false 11) c__law_refused_right_1 e__law_refused_right_2)) (pX [(pN false 5), (pN false 6), (pN false 7)]) [5, 6, 7] l__law_refused_right_3)
def l__law_refused_right_5 : DEnv → M Fl :=
  (sSeq (sPar false 9 10 (dCons (dCall 2 m__law_pick (dCons (dVar 0) (dCons (d2 ixD (dVar 3) (dVar 4)) dNil))) (dCons (dCall 2 m__law_pick (dCons (dVar 0) (dCons (d2 ixD (dVar 3) (d2 addD (dVar 4) (dC (.int 1)))) dNil))) dNil))) (sSeq (sSet false 8 (dCall 2 m__law_heard (dCons (dVar 1) (dCons (d2 addD (d2 addD (dSl (dVar 2) oNone (oSome (dVar 4))) (dA tupO (dCons (d2 ixD (dVar 9) (dC (.int 0))) (dCons (d2 ixD (dVar 10) (dC (.int 0))) dNil)))) (dSl (dVar 2) (oSome (d2 addD (dVar 4) (dC (.int 2)))) oNone)) dNil)))) (sIf (dOr (dB (d2 (eqD true) (d2 ixD (dVar 8) (dC (.int 0))) (d2 ixD (dVar 9) (dC (.int 1))))) (dB (d2 (eqD true) (dA reprX (dCons (d2 ixD (dVar 8) (dC (.int 1))) dNil)) (dA reprX (dCons (d2 ixD (dVar 9) (dC (.int 2))) dNil))))) (sRet (dC (.bl false))) sNil)))
def b__law_refused_right : DEnv → M Fl :=
  (sSeq (sFor (iO rng1 (dCons (dA lenD (dCons (dVar 2) dNil)) dNil)) (pN false 4) [5, 6, 7] l__law_refused_right_4) (sSeq (sFor (iO rng1 (dCons (d2 subD (dA lenD (dCons (dVar 2) dNil)) (dC (.int 1))) dNil)) (pN false 4) [9, 10] l__law_refused_right_5) (sRet (d2 (eqD false) (d2 ixD (dCall 2 m__law_heard (dCons (dVar 1) (dCons (dVar 2) dNil))) (dC (.int 0))) (dC (.str "told"))))))
def m__law_refused_right : List D → M D := runB b__law_refused_right 12
def l__law_right_1 : DEnv → M Fl :=
  (sIf (dNot (dB (dCall 4 m__law_refused_right (dCons (dVar 0) (dCons (dVar 5) (dCons (dA tupO (dCons (dVar 3) (dCons (dVar 4) dNil))) (dCons (dA lstO (dCons (dVar 1) (dCons (dVar 1) dNil))) dNil))))))) (sRet (dC (.bl false))) sNil)
def l__law_right_2 : DEnv → M Fl :=
  (sSeq (sPar false 3 4 (dCons (dCall 2 MW.m__law_f (dCons (d2 subD (dCall 2 m__law_draw (dCons (dVar 0) (dCons (dC (.int 41)) dNil))) (dC (.int 20))) (dCons (d2 addD (dC (.int 1)) (dCall 2 m__law_draw (dCons (dVar 0) (dCons (dC (.int 12)) dNil)))) dNil))) (dCons (dCall 2 MW.m__law_f (dCons (d2 addD (dC (.int 1)) (dCall 2 m__law_draw (dCons (dVar 0) (dCons (dC (.int 20)) dNil)))) (dCons (d2 addD (dC (.int 1)) (dCall 2 m__law_draw (dCons (dVar 0) (dCons (dC (.int 12)) dNil)))) dNil))) dNil))) (sSeq (sFor (iSeq (dA lstO (dCons (dC (.fn "plus")) (dCons (dC (.fn "less")) (dCons (dC (.fn "times")) (dCons (dC (.fn "over")) (dCons (dC (.fn "is_below")) dNil))))))) (pN false 5) [5] l__law_right_1) (sSeq (sIf (dOr (dB (d2 (eqD true) (dCall 2 m__law_heard (dCons (dC (.fn "over")) (dCons (dA tupO (dCons (dVar 3) (dCons (dA tupO (dCons (dC (.int 0)) (dCons (dC (.int 1)) dNil))) dNil))) dNil))) (dA lstO (dCons (dC (.str "fraction")) (dCons (dA tupO (dCons (dC (.int 0)) (dCons (dC (.int 1)) dNil))) dNil))))) (dOr (dB (d2 (eqD true) (dCall 2 m__law_heard (dCons (dC (.fn "over")) (dCons (dA tupO (dCons (dA tupO (dCons (dC (.int 2)) (dCons (dC (.int 4)) dNil))) (dCons (dA tupO (dCons (dC (.int 0)) (dCons (dC (.int 1)) dNil))) dNil))) dNil))) (dA lstO (dCons (dC (.str "fraction")) (dCons (dA tupO (dCons (dC (.int 2)) (dCons (dC (.int 4)) dNil))) dNil))))) (dB (d2 (eqD true) (dCall 2 m__law_heard (dCons (dC (.fn "over")) (dCons (dA tupO (dCons (dA tupO (dCons (dC (.int 0)) (dCons (dC (.int 1)) dNil))) (dCons (dVar 4) dNil))) dNil))) (dA lstO (dCons (dC (.str "told")) (dCons (dC .non) dNil))))))) (sRet (dC (.bl false))) sNil) (sSeq (sSet false 6 (dCall 2 m__law_named (dCons (dA lstO (dCons (dC .non) (dCons (dA tupO dNil) (dCons (dC (.str "1")) (dCons (dC (.bl true)) (dCons (dC (.bl false)) (dCons (dA tupO (dCons (dC (.int 1)) (dCons (dC (.int 1)) dNil))) (dCons (dA lstO (dCons (dC (.int 1)) dNil)) (dCons (dC (.dct [] [])) dNil))))))))) (dCons (dC (.str "fraction")) dNil)))) (sSeq (sPar false 7 8 (dCons (d2 subD (dCall 2 m__law_draw (dCons (dVar 0) (dCons (dC (.int 41)) dNil))) (dC (.int 20))) (dCons (d2 mulD (d2 addD (dC (.int 1)) (dCall 2 m__law_draw (dCons (dVar 0) (dCons (dC (.int 20)) dNil)))) (dCall 2 m__law_pick (dCons (dVar 0) (dCons (dA lstO (dCons (dC (.int 1)) (dCons (d1 negD (dC (.int 1))) dNil))) dNil)))) dNil))) (sIf (dNot (dB (dCall 4 m__law_refused_right (dCons (dVar 0) (dCons (dC (.fn "plain")) (dCons (dA tupO (dCons (dVar 7) (dCons (dVar 8) dNil))) (dCons (dA lstO (dCons (dVar 6) (dCons (d2 addD (dVar 6) (dCall 2 m__law_named (dCons (dA lstO (dCons (dC (.int 0)) dNil)) (dCons (dC (.str "fraction")) dNil)))) dNil))) dNil))))))) (sRet (dC (.bl false))) sNil))))))
def b__law_right : DEnv → M Fl :=
  (sSeq (sSet false 1 (dCall 2 m__law_named (dCons (dCall 0 m__law_no_fractions dNil) (dCons (dC (.str "fraction")) dNil)))) (sSeq (sFor (iO rng1 (dCons (dC (.int 4)) dNil)) (pN false 2) [2, 3, 4, 5, 6, 7, 8] l__law_right_2) (sRet (dAndV (d2 (eqD false) (dCall 2 m__law_heard (dCons (dC (.fn "plain")) (dCons (dA tupO (dCons (dC (.bl true)) (dCons (dC (.int 0)) dNil))) dNil))) (dA lstO (dCons (dC (.str "fraction")) (dCons (dC (.bl true)) dNil)))) (d2 (eqD false) (dCall 2 m__law_heard (dCons (dC (.fn "plain")) (dCons (dA tupO (dCons (dC (.int 0)) (dCons (dC (.int 0)) dNil))) dNil))) (dA lstO (dCons (dC (.str "fraction")) (dCons (dC (.int 0)) dNil))))))))
def m__law_right : List D → M D := runB b__law_right 9
def l__law_pool_1 : DEnv → M Fl :=
  (sSet false 3 (d2 modD (dA intD (dCons (d2 addD (d2 addD (d2 mulD (dVar 3) (dC (.int 48271))) (d2 modD (dA intD (dCons (dVar 4) dNil)) (dC (.int 2147483497)))) (dC (.int 411))) dNil)) (dC (.int 2147483497))))
def p__law_pool : List (DEnv → M Fl) := [(sPar false 2 3 (dCons (dIte (dB (d2 ltD (dVar 1) (dA lenD (dCons (dVar 0) dNil)))) (dA intD (dCons (d2 ixD (dVar 0) (dVar 1)) dNil)) (d2 addD (d2 mulD (dC (.int 70001)) (dVar 1)) (dC (.int 2125)))) (dCons (d2 addD (dC (.int 871530)) (d2 mulD (dC (.int 5087)) (dVar 1))) dNil))),
  (sFor (iSeq (dSl (dVar 0) oNone (oSome (dC (.int 63))))) (pN false 4) [4] l__law_pool_1)]
def m__law_pool : List D → M D := runNew p__law_pool (dCons (d2 modD (dA intD (dCons (d2 addD (dVar 3) (d2 mulD (dVar 2) (dC (.int 1013)))) dNil)) (dC (.int 2147483497))) (dCons (dIte (dOr (dB (d2 ltD (dVar 2) (dC (.int 0)))) (dB (d2 geD (dVar 2) (d2 powD (dC (.int 10)) (dC (.int 18)))))) (dA absD (dCons (dVar 2) dNil)) (dC (.int 0))) (dCons (dC (.int 0)) dNil))) 5
def l_law_1 : DEnv → M Fl :=
  (sIf (dNot (dB (dCallPool 1 2 m__law_right m__law_pool (dCons (dVar 0) (dCons (dVar 1) dNil))))) (sRet (dC (.bl false))) sNil)
def b_law : DEnv → M Fl :=
  (sSeq (sFor (iO rng1 (dCons (dA maxD (dCons (dC (.int 2)) (dCons (dA minD (dCons (dA lenD (dCons (dVar 0) dNil)) (dCons (dC (.int 3)) dNil))) dNil))) dNil)) (pN false 1) [1] l_law_1) (sRet (dC (.bl true))))
def m_law : List D → M D := runB b_law 2
end K01

end
section
namespace K01
open PySem PySem.Spec L2 DL MW
def top (i : Nat) : Stmt := PySem.Challenge.pw_warmtubs_k01_parts_refused.main.body.getD i (.Pass ⟨0, 0, 0, 0⟩)
abbrev N__law_named : List Str := ["things", "word", "thing"]
abbrev N__law_no_fractions : List Str := []
abbrev N__law_f : List Str := ["top", "bottom", "a", "b"]
abbrev N__law_draw : List Str := ["pool", "many", "figure", "held"]
abbrev N_is_tuple_up_to : List Str := ["value", "low", "high"]
abbrev N_is_tuple_of : List Str := ["value", "many"]
abbrev N_is_pair : List Str := ["value"]
abbrev N_is_whole : List Str := ["value"]
abbrev N_is_from : List Str := ["value", "least"]
abbrev N_is_fraction_of : List Str := ["value"]
abbrev N_check_fraction : List Str := ["value"]
abbrev N_check_two : List Str := ["fraction", "number"]
abbrev N_is_below : List Str := ["fraction", "number"]
abbrev N_plain_of : List Str := ["top", "bottom", "common"]
abbrev N_over : List Str := ["fraction", "number"]
abbrev N_times : List Str := ["fraction", "number"]
abbrev N_less : List Str := ["fraction", "number"]
abbrev N_plus : List Str := ["fraction", "number"]
abbrev N_plain : List Str := ["top", "bottom"]
abbrev N__law_heard : List Str := ["call", "args", "e", "found"]
abbrev N__law_pick : List Str := ["pool", "some"]
abbrev N__law_refused_right : List Str := ["pool", "call", "args", "some", "k", "thing", "word", "kept", "heard", "first", "second", "each"]
abbrev N__law_right : List Str := ["pool", "off", "turn", "one", "two", "call", "wrong", "top", "bottom"]
abbrev N__law_pool : List Str := ["script", "turn", "own", "stirred", "cell"]
abbrev N_law : List Str := ["script", "turn"]
structure Txt (K : PySem.W.Frag) (mg : Str → Option Value) where
  n_ValueError : mg "ValueError" = none
  n_abs : mg "abs" = none
  n_bool : mg "bool" = none
  n_divmod : mg "divmod" = none
  n_gcd : mg "gcd" = some (.builtin "math.gcd")
  n_int : mg "int" = none
  n_isinstance : mg "isinstance" = none
  n_len : mg "len" = none
  n_max : mg "max" = none
  n_min : mg "min" = none
  n_range : mg "range" = none
  n_repr : mg "repr" = none
  n_tuple : mg "tuple" = none
  c_NOUGHT : GK K mg "NOUGHT" (.tup [(.int 0), (.int 1)])
  cA_InvalidFraction : Addr
  cI_InvalidFraction : Addr
  x_InvalidFraction : PySem.LowG.LowTxt "InvalidFraction" "InvalidFraction.__init__" K mg cA_InvalidFraction cI_InvalidFraction
  cA_WarmError : Addr
  g_WarmError : mg "WarmError" = some (.ref cA_WarmError)
  rk__law_heard : RowsOk K mg (.ref cA_WarmError) rows__law_heard [⟨cA_InvalidFraction, "fraction", some "given"⟩]
  a__law_named : Addr
  d__law_named : FuncData
  F__law_named : Fun K "_law_named" "_law_named" (top 31) a__law_named d__law_named
  g__law_named : mg "_law_named" = some (.ref a__law_named)
  b__law_named : Binds K d__law_named ["things", "word"] []
  a__law_no_fractions : Addr
  d__law_no_fractions : FuncData
  F__law_no_fractions : Fun K "_law_no_fractions" "_law_no_fractions" (top 32) a__law_no_fractions d__law_no_fractions
  g__law_no_fractions : mg "_law_no_fractions" = some (.ref a__law_no_fractions)
  b__law_no_fractions : Binds K d__law_no_fractions [] []
  a__law_f : Addr
  d__law_f : FuncData
  F__law_f : Fun K "_law_f" "_law_f" (top 28) a__law_f d__law_f
  g__law_f : mg "_law_f" = some (.ref a__law_f)
  b__law_f : Binds K d__law_f ["top", "bottom"] []
  a__law_draw : Addr
  d__law_draw : FuncData
  F__law_draw : Fun K "_law_draw" "_law_draw" (top 26) a__law_draw d__law_draw
  g__law_draw : mg "_law_draw" = some (.ref a__law_draw)
  b__law_draw : Binds K d__law_draw ["pool", "many"] []
  a_is_tuple_up_to : Addr
  d_is_tuple_up_to : FuncData
  F_is_tuple_up_to : Fun K "is_tuple_up_to" "is_tuple_up_to" (top 10) a_is_tuple_up_to d_is_tuple_up_to
  g_is_tuple_up_to : mg "is_tuple_up_to" = some (.ref a_is_tuple_up_to)
  b_is_tuple_up_to : Binds K d_is_tuple_up_to ["value", "low", "high"] []
  a_is_tuple_of : Addr
  d_is_tuple_of : FuncData
  F_is_tuple_of : Fun K "is_tuple_of" "is_tuple_of" (top 11) a_is_tuple_of d_is_tuple_of
  g_is_tuple_of : mg "is_tuple_of" = some (.ref a_is_tuple_of)
  b_is_tuple_of : Binds K d_is_tuple_of ["value", "many"] []
  a_is_pair : Addr
  d_is_pair : FuncData
  F_is_pair : Fun K "is_pair" "is_pair" (top 12) a_is_pair d_is_pair
  g_is_pair : mg "is_pair" = some (.ref a_is_pair)
  b_is_pair : Binds K d_is_pair ["value"] []
  a_is_whole : Addr
  d_is_whole : FuncData
  F_is_whole : Fun K "is_whole" "is_whole" (top 8) a_is_whole d_is_whole
  g_is_whole : mg "is_whole" = some (.ref a_is_whole)
  b_is_whole : Binds K d_is_whole ["value"] []
  a_is_from : Addr
  d_is_from : FuncData
  F_is_from : Fun K "is_from" "is_from" (top 9) a_is_from d_is_from
  g_is_from : mg "is_from" = some (.ref a_is_from)
  b_is_from : Binds K d_is_from ["value", "least"] []
  a_is_fraction_of : Addr
  d_is_fraction_of : FuncData
  F_is_fraction_of : Fun K "is_fraction_of" "is_fraction_of" (top 14) a_is_fraction_of d_is_fraction_of
  g_is_fraction_of : mg "is_fraction_of" = some (.ref a_is_fraction_of)
  b_is_fraction_of : Binds K d_is_fraction_of ["value"] []
  a_check_fraction : Addr
  d_check_fraction : FuncData
  F_check_fraction : Fun K "check_fraction" "check_fraction" (top 15) a_check_fraction d_check_fraction
  g_check_fraction : mg "check_fraction" = some (.ref a_check_fraction)
  b_check_fraction : Binds K d_check_fraction ["value"] []
  a_check_two : Addr
  d_check_two : FuncData
  F_check_two : Fun K "check_two" "check_two" (top 18) a_check_two d_check_two
  g_check_two : mg "check_two" = some (.ref a_check_two)
  b_check_two : Binds K d_check_two ["fraction", "number"] []
  a_is_below : Addr
  d_is_below : FuncData
  F_is_below : Fun K "is_below" "is_below" (top 23) a_is_below d_is_below
  g_is_below : mg "is_below" = some (.ref a_is_below)
  b_is_below : Binds K d_is_below ["fraction", "number"] []
  a_plain_of : Addr
  d_plain_of : FuncData
  F_plain_of : Fun K "plain_of" "plain_of" (top 6) a_plain_of d_plain_of
  g_plain_of : mg "plain_of" = some (.ref a_plain_of)
  b_plain_of : Binds K d_plain_of ["top", "bottom"] []
  a_over : Addr
  d_over : FuncData
  F_over : Fun K "over" "over" (top 22) a_over d_over
  g_over : mg "over" = some (.ref a_over)
  b_over : Binds K d_over ["fraction", "number"] []
  a_times : Addr
  d_times : FuncData
  F_times : Fun K "times" "times" (top 21) a_times d_times
  g_times : mg "times" = some (.ref a_times)
  b_times : Binds K d_times ["fraction", "number"] []
  a_less : Addr
  d_less : FuncData
  F_less : Fun K "less" "less" (top 20) a_less d_less
  g_less : mg "less" = some (.ref a_less)
  b_less : Binds K d_less ["fraction", "number"] []
  a_plus : Addr
  d_plus : FuncData
  F_plus : Fun K "plus" "plus" (top 19) a_plus d_plus
  g_plus : mg "plus" = some (.ref a_plus)
  b_plus : Binds K d_plus ["fraction", "number"] []
  a_plain : Addr
  d_plain : FuncData
  F_plain : Fun K "plain" "plain" (top 17) a_plain d_plain
  g_plain : mg "plain" = some (.ref a_plain)
  b_plain : Binds K d_plain ["top", "bottom"] []
  a__law_heard : Addr
  d__law_heard : FuncData
  F__law_heard : Fun K "_law_heard" "_law_heard" (top 29) a__law_heard d__law_heard
  g__law_heard : mg "_law_heard" = some (.ref a__law_heard)
  b__law_heard : Binds K d__law_heard ["call", "args"] []
  a__law_pick : Addr
  d__law_pick : FuncData
  F__law_pick : Fun K "_law_pick" "_law_pick" (top 27) a__law_pick d__law_pick
  g__law_pick : mg "_law_pick" = some (.ref a__law_pick)
  b__law_pick : Binds K d__law_pick ["pool", "some"] []
  a__law_refused_right : Addr
  d__law_refused_right : FuncData
  F__law_refused_right : Fun K "_law_refused_right" "_law_refused_right" (top 30) a__law_refused_right d__law_refused_right
  g__law_refused_right : mg "_law_refused_right" = some (.ref a__law_refused_right)
  b__law_refused_right : Binds K d__law_refused_right ["pool", "call", "args", "some"] []
  a__law_right : Addr
  d__law_right : FuncData
  F__law_right : Fun K "_law_right" "_law_right" (top 33) a__law_right d__law_right
  g__law_right : mg "_law_right" = some (.ref a__law_right)
  b__law_right : Binds K d__law_right ["pool"] []
  a__law_pool : Addr
  d__law_pool : FuncData
  F__law_pool : Fun K "_law_pool" "_law_pool" (top 25) a__law_pool d__law_pool
  g__law_pool : mg "_law_pool" = some (.ref a__law_pool)
  b__law_pool : Binds K d__law_pool ["script", "turn"] []
  a_law : Addr
  d_law : FuncData
  F_law : Fun K "law" "law" (top 34) a_law d_law
  g_law : mg "law" = some (.ref a_law)
  b_law : Binds K d_law ["script"] []
variable {Pr : Program} {w : World} {K : PySem.W.Frag} {mg : Str → Option Value} {base : Heap}
theorem sc__law_named : FnScope N__law_named ["things", "word"] (defScope (top 31)) := ⟨rfl, rfl, rfl, by decide +kernel, rfl, by decide +kernel, by decide +kernel⟩
set_option maxRecDepth 100000 in
set_option maxHeartbeats 8000000 in
theorem fn__law_named (T : Txt K mg) : FnD Pr w K mg base 1 T.a__law_named T.d__law_named ["things", "word"] true m__law_named := by
  show FnD _ _ _ _ _ _ _ _ _ _ (runV p__law_named r__law_named (N__law_named).length)
  refine fnD_V (own := []) T.F__law_named sc__law_named (by decide) (fun cd A outer s H E hr hgd => ?_)
  · have hu := hr.u64
    have hu5 := hr.u65
    have nd := sc__law_named.nd
    exact (pss_one (ps_ret (pdr_new (pdn_lc [("thing", 2)] rfl nd (pdi_seq pd_v) (blkOk_by rfl) (fun _ _ _ _ _ => (pdg_name false nd rfl (.inl rfl))) (fun _ _ _ _ _ => pdts_nil) (fun _ _ _ _ _ => (pd_lst (pda_cons pd_v (pda_cons pd_v (pda_cons pd_v pda_nil)))))))))
theorem cal__law_named (T : Txt K mg) : CalF Pr w K mg base 1 "_law_named" T.a__law_named T.d__law_named ["things", "word"] true m__law_named := ⟨fn__law_named T, T.g__law_named, T.F__law_named.kp, T.b__law_named⟩
theorem sc__law_no_fractions : FnScope N__law_no_fractions [] (defScope (top 32)) := ⟨rfl, rfl, rfl, by decide +kernel, rfl, by decide +kernel, by decide +kernel⟩
set_option maxRecDepth 100000 in
set_option maxHeartbeats 8000000 in
theorem fn__law_no_fractions (T : Txt K mg) : FnD Pr w K mg base 1 T.a__law_no_fractions T.d__law_no_fractions [] true m__law_no_fractions := by
  show FnD _ _ _ _ _ _ _ _ _ _ (runV p__law_no_fractions r__law_no_fractions (N__law_no_fractions).length)
  refine fnD_V (own := []) T.F__law_no_fractions sc__law_no_fractions (by decide) (fun cd A outer s H E hr hgd => ?_)
  · have hu := hr.u64
    have hu5 := hr.u65
    have nd := sc__law_no_fractions.nd
    exact (pss_one (ps_ret (pdr_new (pdn_lst (pda_cons pd_non (pda_cons (pd_tup pda_nil) (pda_cons pd_int (pda_cons pd_int (pda_cons pd_str (pda_cons pd_bl (pda_cons (pd_tup (pda_cons pd_int pda_nil)) (pda_cons (pd_tup (pda_cons pd_int (pda_cons pd_int (pda_cons pd_int pda_nil)))) (pda_cons (pd_lst (pda_cons pd_int (pda_cons pd_int pda_nil))) (pda_cons (pd_tup (pda_cons pd_int (pda_cons pd_int pda_nil))) (pda_cons (pd_tup (pda_cons pd_int (pda_cons pd_int pda_nil))) (pda_cons (pd_tup (pda_cons pd_int (pda_cons (pd_neg pd_int) pda_nil))) (pda_cons (pd_tup (pda_cons pd_int (pda_cons pd_int pda_nil))) (pda_cons (pd_tup (pda_cons pd_bl (pda_cons pd_int pda_nil))) (pda_cons (pd_tup (pda_cons pd_int (pda_cons pd_bl pda_nil))) (pda_cons (pd_tup (pda_cons pd_non (pda_cons pd_int pda_nil))) (pda_cons (pd_tup (pda_cons pd_str (pda_cons pd_int pda_nil))) (pda_cons pd_dct0 pda_nil))))))))))))))))))))))
theorem cal__law_no_fractions (T : Txt K mg) : CalF Pr w K mg base 1 "_law_no_fractions" T.a__law_no_fractions T.d__law_no_fractions [] true m__law_no_fractions := ⟨fn__law_no_fractions T, T.g__law_no_fractions, T.F__law_no_fractions.kp, T.b__law_no_fractions⟩
theorem sc__law_f : FnScope N__law_f ["top", "bottom"] (defScope (top 28)) := ⟨rfl, rfl, rfl, by decide +kernel, rfl, by decide +kernel, by decide +kernel⟩
set_option maxRecDepth 100000 in
set_option maxHeartbeats 8000000 in
theorem fn__law_f (T : Txt K mg) : FnD Pr w K mg base 1 T.a__law_f T.d__law_f ["top", "bottom"] false MW.m__law_f := by
  show FnD _ _ _ _ _ _ _ _ _ _ (runB MW.b__law_f (N__law_f).length)
  refine fnD_of (own := []) T.F__law_f sc__law_f (by decide) (fun cd A outer s H E hr hgd => ?_)
  · have hu := hr.u64
    have hu5 := hr.u65
    have nd := sc__law_f.nd
    exact (pdss_cons (pds_asg (pd_ite (pdt_cmp op_lt o_cmp pd_v pd_int (nomark _)) (pd_tup (pda_cons (pd_sub pd_int pd_v) (pda_cons (pd_sub pd_int pd_v) pda_nil))) (pd_tup (pda_cons pd_v (pda_cons pd_v pda_nil)))) (pdg_tup rfl (pdgs_cons (pdg_name false nd rfl (.inl rfl)) (pdgs_cons (pdg_name false nd rfl (.inl rfl)) pdgs_nil)))) (pdss_cons (pds_par false rfl nd rfl rfl (by decide) rfl rfl (pda_cons (pd_abs T.n_abs (pda_cons pd_v pda_nil)) (pda_cons pd_v pda_nil)) rfl) (pdss_cons (pds_while w__law_f_1 [] (passes_of rfl) (pdt_cmp op_gt o_cmp pd_v pd_int (nomark _)) (pdss_one (pds_par false rfl nd rfl rfl (by decide) rfl rfl (pda_cons pd_v (pda_cons (pd_mod (pd_intc T.n_int (pda_cons pd_v pda_nil)) pd_v) pda_nil)) rfl))) (pdss_one (pds_ret (pd_tup (pda_cons (pd_fdiv pd_v pd_v) (pda_cons (pd_fdiv pd_v pd_v) pda_nil))))))))
theorem cal__law_f (T : Txt K mg) : CalF Pr w K mg base 1 "_law_f" T.a__law_f T.d__law_f ["top", "bottom"] false MW.m__law_f := ⟨fn__law_f T, T.g__law_f, T.F__law_f.kp, T.b__law_f⟩
theorem sc__law_draw : FnScope N__law_draw ["pool", "many"] (defScope (top 26)) := ⟨rfl, rfl, rfl, by decide +kernel, rfl, by decide +kernel, by decide +kernel⟩
set_option maxRecDepth 100000 in
set_option maxHeartbeats 8000000 in
theorem fn__law_draw (T : Txt K mg) : FnD Pr w K mg base 1 T.a__law_draw T.d__law_draw ["pool", "many"] false m__law_draw := by
  show FnD _ _ _ _ _ _ _ _ _ _ (runB b__law_draw (N__law_draw).length)
  refine fnD_of (own := []) T.F__law_draw sc__law_draw (by decide) (fun cd A outer s H E hr hgd => ?_)
  · have hu := hr.u64
    have hu5 := hr.u65
    have nd := sc__law_draw.nd
    exact (pdss_cons (pds_if (pdt_cmp op_gt o_cmp (pd_p pd_int) pd_int (nomark _)) (pdss_cons (pds_poolPair rfl nd rfl (.inl rfl) rfl (.inl rfl) (pd_divmod T.n_divmod (pda_cons (pd_p pd_int) (pda_cons pd_v pda_nil))) pd_int) (pdss_one (pds_ret pd_v))) pdss_nil) (pdss_cons (pds_pool rfl (.inl rfl) (pd_add (pd_p pd_int) pd_int) pd_int) (pdss_cons (pds_set false nd rfl (.inl rfl) (pd_intc T.n_int (pda_cons (pd_p pd_int) pda_nil))) (pdss_cons (pds_pool rfl (.inl rfl) (pd_mod (pd_intc T.n_int (pda_cons (pd_add (pd_add (pd_mul pd_v (pd_add (pd_mod pd_v pd_int) pd_int)) (pd_mul pd_int (pd_p pd_int))) pd_int) pda_nil)) pd_int) pd_int) (pdss_one (pds_ret (pd_mod (pd_intc T.n_int (pda_cons (pd_fdiv (pd_p pd_int) pd_int) pda_nil)) pd_v)))))))
theorem cal__law_draw (T : Txt K mg) : CalF Pr w K mg base 1 "_law_draw" T.a__law_draw T.d__law_draw ["pool", "many"] false m__law_draw := ⟨fn__law_draw T, T.g__law_draw, T.F__law_draw.kp, T.b__law_draw⟩
theorem sc_is_tuple_up_to : FnScope N_is_tuple_up_to ["value", "low", "high"] (defScope (top 10)) := ⟨rfl, rfl, rfl, by decide +kernel, rfl, by decide +kernel, by decide +kernel⟩
set_option maxRecDepth 100000 in
set_option maxHeartbeats 8000000 in
theorem fn_is_tuple_up_to (T : Txt K mg) : FnD Pr w K mg base 1 T.a_is_tuple_up_to T.d_is_tuple_up_to ["value", "low", "high"] false MW.m_is_tuple_up_to := by
  show FnD _ _ _ _ _ _ _ _ _ _ (runB MW.b_is_tuple_up_to (N_is_tuple_up_to).length)
  refine fnD_of (own := []) T.F_is_tuple_up_to sc_is_tuple_up_to (by decide) (fun cd A outer s H E hr hgd => ?_)
  · have hu := hr.u64
    have hu5 := hr.u65
    have nd := sc_is_tuple_up_to.nd
    exact (pdss_one (pds_ret (pd_and (pd_isi T.n_isinstance T.n_tuple rfl pd_v) (pd_one (pd_chain op_le op_le o_cmp o_cmp pd_v (pd_len T.n_len (pda_cons pd_v pda_nil)) pd_v)))))
theorem cal_is_tuple_up_to (T : Txt K mg) : CalF Pr w K mg base 1 "is_tuple_up_to" T.a_is_tuple_up_to T.d_is_tuple_up_to ["value", "low", "high"] false MW.m_is_tuple_up_to := ⟨fn_is_tuple_up_to T, T.g_is_tuple_up_to, T.F_is_tuple_up_to.kp, T.b_is_tuple_up_to⟩
theorem sc_is_tuple_of : FnScope N_is_tuple_of ["value", "many"] (defScope (top 11)) := ⟨rfl, rfl, rfl, by decide +kernel, rfl, by decide +kernel, by decide +kernel⟩
set_option maxRecDepth 100000 in
set_option maxHeartbeats 8000000 in
theorem fn_is_tuple_of (T : Txt K mg) : FnD Pr w K mg base 2 T.a_is_tuple_of T.d_is_tuple_of ["value", "many"] false MW.m_is_tuple_of := by
  show FnD _ _ _ _ _ _ _ _ _ _ (runB MW.b_is_tuple_of (N_is_tuple_of).length)
  refine fnD_of (own := []) T.F_is_tuple_of sc_is_tuple_of (by decide) (fun cd A outer s H E hr hgd => ?_)
  · have hu := hr.u64
    have hu5 := hr.u65
    have nd := sc_is_tuple_of.nd
    exact (pdss_one (pds_ret (pd_c (cal_is_tuple_up_to T) hr hgd (takes_of rfl rfl rfl rfl) (pda_cons pd_v (pda_cons pd_v (pda_cons pd_v pda_nil))))))
theorem cal_is_tuple_of (T : Txt K mg) : CalF Pr w K mg base 2 "is_tuple_of" T.a_is_tuple_of T.d_is_tuple_of ["value", "many"] false MW.m_is_tuple_of := ⟨fn_is_tuple_of T, T.g_is_tuple_of, T.F_is_tuple_of.kp, T.b_is_tuple_of⟩
theorem sc_is_pair : FnScope N_is_pair ["value"] (defScope (top 12)) := ⟨rfl, rfl, rfl, by decide +kernel, rfl, by decide +kernel, by decide +kernel⟩
set_option maxRecDepth 100000 in
set_option maxHeartbeats 8000000 in
theorem fn_is_pair (T : Txt K mg) : FnD Pr w K mg base 3 T.a_is_pair T.d_is_pair ["value"] false MW.m_is_pair := by
  show FnD _ _ _ _ _ _ _ _ _ _ (runB MW.b_is_pair (N_is_pair).length)
  refine fnD_of (own := []) T.F_is_pair sc_is_pair (by decide) (fun cd A outer s H E hr hgd => ?_)
  · have hu := hr.u64
    have hu5 := hr.u65
    have nd := sc_is_pair.nd
    exact (pdss_one (pds_ret (pd_c (cal_is_tuple_of T) hr hgd (takes_of rfl rfl rfl rfl) (pda_cons pd_v (pda_cons pd_int pda_nil)))))
theorem cal_is_pair (T : Txt K mg) : CalF Pr w K mg base 3 "is_pair" T.a_is_pair T.d_is_pair ["value"] false MW.m_is_pair := ⟨fn_is_pair T, T.g_is_pair, T.F_is_pair.kp, T.b_is_pair⟩
theorem sc_is_whole : FnScope N_is_whole ["value"] (defScope (top 8)) := ⟨rfl, rfl, rfl, by decide +kernel, rfl, by decide +kernel, by decide +kernel⟩
set_option maxRecDepth 100000 in
set_option maxHeartbeats 8000000 in
theorem fn_is_whole (T : Txt K mg) : FnD Pr w K mg base 1 T.a_is_whole T.d_is_whole ["value"] false MW.m_is_whole := by
  show FnD _ _ _ _ _ _ _ _ _ _ (runB MW.b_is_whole (N_is_whole).length)
  refine fnD_of (own := []) T.F_is_whole sc_is_whole (by decide) (fun cd A outer s H E hr hgd => ?_)
  · have hu := hr.u64
    have hu5 := hr.u65
    have nd := sc_is_whole.nd
    exact (pdss_one (pds_ret (pd_and (pd_isi T.n_isinstance T.n_int rfl pd_v) (pd_one (pd_not (pd_isi T.n_isinstance T.n_bool rfl pd_v))))))
theorem cal_is_whole (T : Txt K mg) : CalF Pr w K mg base 1 "is_whole" T.a_is_whole T.d_is_whole ["value"] false MW.m_is_whole := ⟨fn_is_whole T, T.g_is_whole, T.F_is_whole.kp, T.b_is_whole⟩
theorem sc_is_from : FnScope N_is_from ["value", "least"] (defScope (top 9)) := ⟨rfl, rfl, rfl, by decide +kernel, rfl, by decide +kernel, by decide +kernel⟩
set_option maxRecDepth 100000 in
set_option maxHeartbeats 8000000 in
theorem fn_is_from (T : Txt K mg) : FnD Pr w K mg base 2 T.a_is_from T.d_is_from ["value", "least"] false MW.m_is_from := by
  show FnD _ _ _ _ _ _ _ _ _ _ (runB MW.b_is_from (N_is_from).length)
  refine fnD_of (own := []) T.F_is_from sc_is_from (by decide) (fun cd A outer s H E hr hgd => ?_)
  · have hu := hr.u64
    have hu5 := hr.u65
    have nd := sc_is_from.nd
    exact (pdss_one (pds_ret (pd_and (pd_c (cal_is_whole T) hr hgd (takes_of rfl rfl rfl rfl) (pda_cons pd_v pda_nil)) (pd_one (pd_ge pd_v pd_v)))))
theorem cal_is_from (T : Txt K mg) : CalF Pr w K mg base 2 "is_from" T.a_is_from T.d_is_from ["value", "least"] false MW.m_is_from := ⟨fn_is_from T, T.g_is_from, T.F_is_from.kp, T.b_is_from⟩
theorem sc_is_fraction_of : FnScope N_is_fraction_of ["value"] (defScope (top 14)) := ⟨rfl, rfl, rfl, by decide +kernel, rfl, by decide +kernel, by decide +kernel⟩
set_option maxRecDepth 100000 in
set_option maxHeartbeats 8000000 in
theorem fn_is_fraction_of (T : Txt K mg) : FnD Pr w K mg base 4 T.a_is_fraction_of T.d_is_fraction_of ["value"] false MW.m_is_fraction_of := by
  show FnD _ _ _ _ _ _ _ _ _ _ (runB MW.b_is_fraction_of (N_is_fraction_of).length)
  refine fnD_of (own := []) T.F_is_fraction_of sc_is_fraction_of (by decide) (fun cd A outer s H E hr hgd => ?_)
  · have hu := hr.u64
    have hu5 := hr.u65
    have nd := sc_is_fraction_of.nd
    exact (pdss_cons (pds_if (PW.pdt (pdw_or (pdt_not (pdt_val (pd_c (cal_is_pair T) hr hgd (takes_of rfl rfl rfl rfl) (pda_cons pd_v pda_nil)))) (pdw_or (pdt_not (pdt_val (pd_c (cal_is_whole T) hr hgd (takes_of rfl rfl rfl rfl) (pda_cons (pd_ix pd_v pd_int) pda_nil)))) (pdw_or1 (pdt_not (pdt_val (pd_c (cal_is_from T) hr hgd (takes_of rfl rfl rfl rfl) (pda_cons (pd_ix pd_v pd_int) (pda_cons pd_int pda_nil))))))))) (pdss_one (pds_ret pd_bl)) pdss_nil) (pdss_one (pds_ret (pd_eq hu (pd_gcd T.n_gcd (pda_cons (pd_ix pd_v pd_int) (pda_cons (pd_ix pd_v pd_int) pda_nil))) pd_int))))
theorem cal_is_fraction_of (T : Txt K mg) : CalF Pr w K mg base 4 "is_fraction_of" T.a_is_fraction_of T.d_is_fraction_of ["value"] false MW.m_is_fraction_of := ⟨fn_is_fraction_of T, T.g_is_fraction_of, T.F_is_fraction_of.kp, T.b_is_fraction_of⟩
theorem sc_check_fraction : FnScope N_check_fraction ["value"] (defScope (top 15)) := ⟨rfl, rfl, rfl, by decide +kernel, rfl, by decide +kernel, by decide +kernel⟩
set_option maxRecDepth 100000 in
set_option maxHeartbeats 8000000 in
theorem fn_check_fraction (T : Txt K mg) : FnD Pr w K mg base 5 T.a_check_fraction T.d_check_fraction ["value"] false m_check_fraction := by
  show FnD _ _ _ _ _ _ _ _ _ _ (runB b_check_fraction (N_check_fraction).length)
  refine fnD_of (own := []) T.F_check_fraction sc_check_fraction (by decide) (fun cd A outer s H E hr hgd => ?_)
  · have hu := hr.u64
    have hu5 := hr.u65
    have nd := sc_check_fraction.nd
    exact (pdss_one (pds_if (pdt_not (pdt_val (pd_c (cal_is_fraction_of T) hr hgd (takes_of rfl rfl rfl rfl) (pda_cons pd_v pda_nil)))) (pdss_one (pds_raiseG T.x_InvalidFraction rfl hr (takes_of rfl rfl rfl rfl) pd_v)) pdss_nil))
theorem cal_check_fraction (T : Txt K mg) : CalF Pr w K mg base 5 "check_fraction" T.a_check_fraction T.d_check_fraction ["value"] false m_check_fraction := ⟨fn_check_fraction T, T.g_check_fraction, T.F_check_fraction.kp, T.b_check_fraction⟩
theorem sc_check_two : FnScope N_check_two ["fraction", "number"] (defScope (top 18)) := ⟨rfl, rfl, rfl, by decide +kernel, rfl, by decide +kernel, by decide +kernel⟩
set_option maxRecDepth 100000 in
set_option maxHeartbeats 8000000 in
theorem fn_check_two (T : Txt K mg) : FnD Pr w K mg base 6 T.a_check_two T.d_check_two ["fraction", "number"] false m_check_two := by
  show FnD _ _ _ _ _ _ _ _ _ _ (runB b_check_two (N_check_two).length)
  refine fnD_of (own := []) T.F_check_two sc_check_two (by decide) (fun cd A outer s H E hr hgd => ?_)
  · have hu := hr.u64
    have hu5 := hr.u65
    have nd := sc_check_two.nd
    exact (pdss_cons (pds_expr (pd_c (cal_check_fraction T) hr hgd (takes_of rfl rfl rfl rfl) (pda_cons pd_v pda_nil))) (pdss_one (pds_expr (pd_c (cal_check_fraction T) hr hgd (takes_of rfl rfl rfl rfl) (pda_cons pd_v pda_nil)))))
theorem cal_check_two (T : Txt K mg) : CalF Pr w K mg base 6 "check_two" T.a_check_two T.d_check_two ["fraction", "number"] false m_check_two := ⟨fn_check_two T, T.g_check_two, T.F_check_two.kp, T.b_check_two⟩
theorem sc_is_below : FnScope N_is_below ["fraction", "number"] (defScope (top 23)) := ⟨rfl, rfl, rfl, by decide +kernel, rfl, by decide +kernel, by decide +kernel⟩
set_option maxRecDepth 100000 in
set_option maxHeartbeats 8000000 in
theorem fn_is_below (T : Txt K mg) : FnD Pr w K mg base 7 T.a_is_below T.d_is_below ["fraction", "number"] false m_is_below := by
  show FnD _ _ _ _ _ _ _ _ _ _ (runB b_is_below (N_is_below).length)
  refine fnD_of (own := []) T.F_is_below sc_is_below (by decide) (fun cd A outer s H E hr hgd => ?_)
  · have hu := hr.u64
    have hu5 := hr.u65
    have nd := sc_is_below.nd
    exact (pdss_cons (pds_expr (pd_c (cal_check_two T) hr hgd (takes_of rfl rfl rfl rfl) (pda_cons pd_v (pda_cons pd_v pda_nil)))) (pdss_one (pds_ret (pd_lt (pd_mul (pd_ix pd_v pd_int) (pd_ix pd_v pd_int)) (pd_mul (pd_ix pd_v pd_int) (pd_ix pd_v pd_int))))))
theorem cal_is_below (T : Txt K mg) : CalF Pr w K mg base 7 "is_below" T.a_is_below T.d_is_below ["fraction", "number"] false m_is_below := ⟨fn_is_below T, T.g_is_below, T.F_is_below.kp, T.b_is_below⟩
theorem sc_plain_of : FnScope N_plain_of ["top", "bottom"] (defScope (top 6)) := ⟨rfl, rfl, rfl, by decide +kernel, rfl, by decide +kernel, by decide +kernel⟩
set_option maxRecDepth 100000 in
set_option maxHeartbeats 8000000 in
theorem fn_plain_of (T : Txt K mg) : FnD Pr w K mg base 1 T.a_plain_of T.d_plain_of ["top", "bottom"] false MW.m_plain_of := by
  show FnD _ _ _ _ _ _ _ _ _ _ (runB MW.b_plain_of (N_plain_of).length)
  refine fnD_of (own := []) T.F_plain_of sc_plain_of (by decide) (fun cd A outer s H E hr hgd => ?_)
  · have hu := hr.u64
    have hu5 := hr.u65
    have nd := sc_plain_of.nd
    exact (pdss_cons (pds_set false nd rfl (.inl rfl) (pd_ite (pdt_cmp op_gt o_cmp pd_v pd_int (nomark _)) (pd_gcd T.n_gcd (pda_cons pd_v (pda_cons pd_v pda_nil))) (pd_neg (pd_gcd T.n_gcd (pda_cons pd_v (pda_cons pd_v pda_nil)))))) (pdss_one (pds_ret (pd_tup (pda_cons (pd_fdiv pd_v pd_v) (pda_cons (pd_fdiv pd_v pd_v) pda_nil))))))
theorem cal_plain_of (T : Txt K mg) : CalF Pr w K mg base 1 "plain_of" T.a_plain_of T.d_plain_of ["top", "bottom"] false MW.m_plain_of := ⟨fn_plain_of T, T.g_plain_of, T.F_plain_of.kp, T.b_plain_of⟩
theorem sc_over : FnScope N_over ["fraction", "number"] (defScope (top 22)) := ⟨rfl, rfl, rfl, by decide +kernel, rfl, by decide +kernel, by decide +kernel⟩
set_option maxRecDepth 100000 in
set_option maxHeartbeats 8000000 in
theorem fn_over (T : Txt K mg) : FnD Pr w K mg base 7 T.a_over T.d_over ["fraction", "number"] false m_over := by
  show FnD _ _ _ _ _ _ _ _ _ _ (runB b_over (N_over).length)
  refine fnD_of (own := []) T.F_over sc_over (by decide) (fun cd A outer s H E hr hgd => ?_)
  · have hu := hr.u64
    have hu5 := hr.u65
    have nd := sc_over.nd
    exact (pdss_cons (pds_expr (pd_c (cal_check_two T) hr hgd (takes_of rfl rfl rfl rfl) (pda_cons pd_v (pda_cons pd_v pda_nil)))) (pdss_cons (pds_if (pdt_cmp (op_eqP hu) o_eq pd_v (pd_g T.c_NOUGHT) (nomark _)) (pdss_one (pds_raiseG T.x_InvalidFraction rfl hr (takes_of rfl rfl rfl rfl) pd_v)) pdss_nil) (pdss_one (pds_ret (pd_c (cal_plain_of T) hr hgd (takes_of rfl rfl rfl rfl) (pda_cons (pd_mul (pd_ix pd_v pd_int) (pd_ix pd_v pd_int)) (pda_cons (pd_mul (pd_ix pd_v pd_int) (pd_ix pd_v pd_int)) pda_nil)))))))
theorem cal_over (T : Txt K mg) : CalF Pr w K mg base 7 "over" T.a_over T.d_over ["fraction", "number"] false m_over := ⟨fn_over T, T.g_over, T.F_over.kp, T.b_over⟩
theorem sc_times : FnScope N_times ["fraction", "number"] (defScope (top 21)) := ⟨rfl, rfl, rfl, by decide +kernel, rfl, by decide +kernel, by decide +kernel⟩
set_option maxRecDepth 100000 in
set_option maxHeartbeats 8000000 in
theorem fn_times (T : Txt K mg) : FnD Pr w K mg base 7 T.a_times T.d_times ["fraction", "number"] false m_times := by
  show FnD _ _ _ _ _ _ _ _ _ _ (runB b_times (N_times).length)
  refine fnD_of (own := []) T.F_times sc_times (by decide) (fun cd A outer s H E hr hgd => ?_)
  · have hu := hr.u64
    have hu5 := hr.u65
    have nd := sc_times.nd
    exact (pdss_cons (pds_expr (pd_c (cal_check_two T) hr hgd (takes_of rfl rfl rfl rfl) (pda_cons pd_v (pda_cons pd_v pda_nil)))) (pdss_one (pds_ret (pd_c (cal_plain_of T) hr hgd (takes_of rfl rfl rfl rfl) (pda_cons (pd_mul (pd_ix pd_v pd_int) (pd_ix pd_v pd_int)) (pda_cons (pd_mul (pd_ix pd_v pd_int) (pd_ix pd_v pd_int)) pda_nil))))))
theorem cal_times (T : Txt K mg) : CalF Pr w K mg base 7 "times" T.a_times T.d_times ["fraction", "number"] false m_times := ⟨fn_times T, T.g_times, T.F_times.kp, T.b_times⟩
theorem sc_less : FnScope N_less ["fraction", "number"] (defScope (top 20)) := ⟨rfl, rfl, rfl, by decide +kernel, rfl, by decide +kernel, by decide +kernel⟩
set_option maxRecDepth 100000 in
set_option maxHeartbeats 8000000 in
theorem fn_less (T : Txt K mg) : FnD Pr w K mg base 7 T.a_less T.d_less ["fraction", "number"] false m_less := by
  show FnD _ _ _ _ _ _ _ _ _ _ (runB b_less (N_less).length)
  refine fnD_of (own := []) T.F_less sc_less (by decide) (fun cd A outer s H E hr hgd => ?_)
  · have hu := hr.u64
    have hu5 := hr.u65
    have nd := sc_less.nd
    exact (pdss_cons (pds_expr (pd_c (cal_check_two T) hr hgd (takes_of rfl rfl rfl rfl) (pda_cons pd_v (pda_cons pd_v pda_nil)))) (pdss_one (pds_ret (pd_c (cal_plain_of T) hr hgd (takes_of rfl rfl rfl rfl) (pda_cons (pd_sub (pd_mul (pd_ix pd_v pd_int) (pd_ix pd_v pd_int)) (pd_mul (pd_ix pd_v pd_int) (pd_ix pd_v pd_int))) (pda_cons (pd_mul (pd_ix pd_v pd_int) (pd_ix pd_v pd_int)) pda_nil))))))
theorem cal_less (T : Txt K mg) : CalF Pr w K mg base 7 "less" T.a_less T.d_less ["fraction", "number"] false m_less := ⟨fn_less T, T.g_less, T.F_less.kp, T.b_less⟩
theorem sc_plus : FnScope N_plus ["fraction", "number"] (defScope (top 19)) := ⟨rfl, rfl, rfl, by decide +kernel, rfl, by decide +kernel, by decide +kernel⟩
set_option maxRecDepth 100000 in
set_option maxHeartbeats 8000000 in
theorem fn_plus (T : Txt K mg) : FnD Pr w K mg base 7 T.a_plus T.d_plus ["fraction", "number"] false m_plus := by
  show FnD _ _ _ _ _ _ _ _ _ _ (runB b_plus (N_plus).length)
  refine fnD_of (own := []) T.F_plus sc_plus (by decide) (fun cd A outer s H E hr hgd => ?_)
  · have hu := hr.u64
    have hu5 := hr.u65
    have nd := sc_plus.nd
    exact (pdss_cons (pds_expr (pd_c (cal_check_two T) hr hgd (takes_of rfl rfl rfl rfl) (pda_cons pd_v (pda_cons pd_v pda_nil)))) (pdss_one (pds_ret (pd_c (cal_plain_of T) hr hgd (takes_of rfl rfl rfl rfl) (pda_cons (pd_add (pd_mul (pd_ix pd_v pd_int) (pd_ix pd_v pd_int)) (pd_mul (pd_ix pd_v pd_int) (pd_ix pd_v pd_int))) (pda_cons (pd_mul (pd_ix pd_v pd_int) (pd_ix pd_v pd_int)) pda_nil))))))
theorem cal_plus (T : Txt K mg) : CalF Pr w K mg base 7 "plus" T.a_plus T.d_plus ["fraction", "number"] false m_plus := ⟨fn_plus T, T.g_plus, T.F_plus.kp, T.b_plus⟩
theorem sc_plain : FnScope N_plain ["top", "bottom"] (defScope (top 17)) := ⟨rfl, rfl, rfl, by decide +kernel, rfl, by decide +kernel, by decide +kernel⟩
set_option maxRecDepth 100000 in
set_option maxHeartbeats 8000000 in
theorem fn_plain (T : Txt K mg) : FnD Pr w K mg base 2 T.a_plain T.d_plain ["top", "bottom"] false m_plain := by
  show FnD _ _ _ _ _ _ _ _ _ _ (runB b_plain (N_plain).length)
  refine fnD_of (own := []) T.F_plain sc_plain (by decide) (fun cd A outer s H E hr hgd => ?_)
  · have hu := hr.u64
    have hu5 := hr.u65
    have nd := sc_plain.nd
    exact (pdss_cons (pds_if (pdt_not (pdt_val (pd_c (cal_is_whole T) hr hgd (takes_of rfl rfl rfl rfl) (pda_cons pd_v pda_nil)))) (pdss_one (pds_raiseG T.x_InvalidFraction rfl hr (takes_of rfl rfl rfl rfl) pd_v)) pdss_nil) (pdss_cons (pds_if (PW.pdt (pdw_or (pdt_not (pdt_val (pd_c (cal_is_whole T) hr hgd (takes_of rfl rfl rfl rfl) (pda_cons pd_v pda_nil)))) (pdw_or1 (pdt_cmp (op_eqP hu) o_eq pd_v pd_int (nomark _))))) (pdss_one (pds_raiseG T.x_InvalidFraction rfl hr (takes_of rfl rfl rfl rfl) pd_v)) pdss_nil) (pdss_one (pds_ret (pd_c (cal_plain_of T) hr hgd (takes_of rfl rfl rfl rfl) (pda_cons pd_v (pda_cons pd_v pda_nil)))))))
theorem cal_plain (T : Txt K mg) : CalF Pr w K mg base 2 "plain" T.a_plain T.d_plain ["top", "bottom"] false m_plain := ⟨fn_plain T, T.g_plain, T.F_plain.kp, T.b_plain⟩
theorem tab_ok (T : Txt K mg) : ∀ x n m, tab_law x = some (n, m) → ∃ j fa fd ps nw, j ≤ 7 ∧ ps.length = n ∧ CalF Pr w K mg base j x fa fd ps nw m := by
  intro x n m h
  unfold tab_law at h
  by_cases h0 : x = "is_below"
  · subst h0
    rw [if_pos rfl] at h
    cases h
    exact ⟨_, _, _, _, _, by decide, rfl, cal_is_below T⟩
  rw [if_neg h0] at h
  clear h0
  by_cases h0 : x = "less"
  · subst h0
    rw [if_pos rfl] at h
    cases h
    exact ⟨_, _, _, _, _, by decide, rfl, cal_less T⟩
  rw [if_neg h0] at h
  clear h0
  by_cases h0 : x = "over"
  · subst h0
    rw [if_pos rfl] at h
    cases h
    exact ⟨_, _, _, _, _, by decide, rfl, cal_over T⟩
  rw [if_neg h0] at h
  clear h0
  by_cases h0 : x = "plain"
  · subst h0
    rw [if_pos rfl] at h
    cases h
    exact ⟨_, _, _, _, _, by decide, rfl, cal_plain T⟩
  rw [if_neg h0] at h
  clear h0
  by_cases h0 : x = "plus"
  · subst h0
    rw [if_pos rfl] at h
    cases h
    exact ⟨_, _, _, _, _, by decide, rfl, cal_plus T⟩
  rw [if_neg h0] at h
  clear h0
  by_cases h0 : x = "times"
  · subst h0
    rw [if_pos rfl] at h
    cases h
    exact ⟨_, _, _, _, _, by decide, rfl, cal_times T⟩
  rw [if_neg h0] at h
  clear h0
  cases h
theorem sc__law_heard : FnScope N__law_heard ["call", "args"] (defScope (top 29)) := ⟨rfl, rfl, rfl, by decide +kernel, rfl, by decide +kernel, by decide +kernel⟩
set_option maxRecDepth 100000 in
set_option maxHeartbeats 8000000 in
theorem fn__law_heard (T : Txt K mg) : FnD Pr w K mg base 8 T.a__law_heard T.d__law_heard ["call", "args"] false m__law_heard := by
  show FnD _ _ _ _ _ _ _ _ _ _ (runB b__law_heard (N__law_heard).length)
  refine fnD_of (own := []) T.F__law_heard sc__law_heard (by decide) (fun cd A outer s H E hr hgd => ?_)
  · have hu := hr.u64
    have hu5 := hr.u65
    have nd := sc__law_heard.nd
    exact (pdss_cons (pds_try T.rk__law_heard rfl rfl nd rfl rfl rfl ⟨rfl, by decide, Or.inl T.g_WarmError⟩ (takes_of rfl rfl rfl rfl) (fun W pn xe tk _ => (pdss_one (pds_if (pdt_cmp (op_eqP hu) o_eq (pd_len T.n_len (pda_cons pd_v pda_nil)) pd_int (nomark _)) (pdss_one (pds_expr (pd_cV (tab_ok T) (hr.mono (by decide)) hgd tk (pda_cons (pd_ix pd_v pd_int) pda_nil)))) (pdss_one (pds_if (pdt_cmp (op_eqP hu) o_eq (pd_len T.n_len (pda_cons pd_v pda_nil)) pd_int (nomark _)) (pdss_one (pds_expr (pd_cV (tab_ok T) (hr.mono (by decide)) hgd tk (pda_cons (pd_ix pd_v pd_int) (pda_cons (pd_ix pd_v pd_int) pda_nil))))) (pdss_one (pds_if (pdt_cmp (op_eqP hu) o_eq (pd_len T.n_len (pda_cons pd_v pda_nil)) pd_int (nomark _)) (pdss_one (pds_expr (pd_cV (tab_ok T) (hr.mono (by decide)) hgd tk (pda_cons (pd_ix pd_v pd_int) (pda_cons (pd_ix pd_v pd_int) (pda_cons (pd_ix pd_v pd_int) pda_nil)))))) (pdss_one (pds_if (pdt_cmp (op_eqP hu) o_eq (pd_len T.n_len (pda_cons pd_v pda_nil)) pd_int (nomark _)) (pdss_one (pds_expr (pd_cV (tab_ok T) (hr.mono (by decide)) hgd tk (pda_cons (pd_ix pd_v pd_int) (pda_cons (pd_ix pd_v pd_int) (pda_cons (pd_ix pd_v pd_int) (pda_cons (pd_ix pd_v pd_int) pda_nil))))))) (pdss_one (pds_expr (pd_cV (tab_ok T) (hr.mono (by decide)) hgd tk (pda_cons (pd_ix pd_v pd_int) (pda_cons (pd_ix pd_v pd_int) (pda_cons (pd_ix pd_v pd_int) (pda_cons (pd_ix pd_v pd_int) (pda_cons (pd_ix pd_v pd_int) pda_nil))))))))))))))))) (fun a oe cls d pn hz hf => (pss_cons (ps_set (i := 3) nd rfl (Or.inl rfl) (pe_lst pa_nil)) (pss_cons (ps_set (i := 3) nd rfl (Or.inl rfl) (pe_op op_add4 (pv 3) (pe_ifExp (pt_val (pe_callB (call_isX hz hf) rfl T.n_isinstance (by decide +kernel) (pa_cons (pv 2) (pa_cons (pe_glob rfl T.x_InvalidFraction.gC rfl) pa_nil)) (by decide) (by decide))) (pe_lst (pa_cons (pe_lst (pa_cons pe_str (pa_cons (pe_elG T.x_InvalidFraction hz hf (pv 2)) pa_nil))) pa_nil)) (pe_lst pa_nil)))) (pss_one (ps_ret (pe_ifExp (PW.pt (pw_and (pt_cmpR op_eq (pe_callB call_len_seq rfl T.n_len PySem.boot_len (pa_cons (pv 3) pa_nil)) pe_int (nomark _)) (pw_and1 (pt_val (pe_callB (call_isX hz hf) rfl T.n_isinstance (by decide +kernel) (pa_cons (pv 2) (pa_cons (pe_bltn (v := .ty "ValueError") rfl T.n_ValueError (by decide +kernel) rfl) pa_nil)) (by decide) (by decide)))))) (pe_ix ix_list (pv 3) pe_int (fun _ _ => rfl)) (pe_lst (pa_cons pe_str (pa_cons (pv 3) pa_nil)))))))))) (pdss_one (pds_ret (pd_lst (pda_cons pd_str (pda_cons pd_non pda_nil))))))
theorem cal__law_heard (T : Txt K mg) : CalF Pr w K mg base 8 "_law_heard" T.a__law_heard T.d__law_heard ["call", "args"] false m__law_heard := ⟨fn__law_heard T, T.g__law_heard, T.F__law_heard.kp, T.b__law_heard⟩
theorem sc__law_pick : FnScope N__law_pick ["pool", "some"] (defScope (top 27)) := ⟨rfl, rfl, rfl, by decide +kernel, rfl, by decide +kernel, by decide +kernel⟩
set_option maxRecDepth 100000 in
set_option maxHeartbeats 8000000 in
theorem fn__law_pick (T : Txt K mg) : FnD Pr w K mg base 2 T.a__law_pick T.d__law_pick ["pool", "some"] false m__law_pick := by
  show FnD _ _ _ _ _ _ _ _ _ _ (runB b__law_pick (N__law_pick).length)
  refine fnD_of (own := []) T.F__law_pick sc__law_pick (by decide) (fun cd A outer s H E hr hgd => ?_)
  · have hu := hr.u64
    have hu5 := hr.u65
    have nd := sc__law_pick.nd
    exact (pdss_one (pds_ret (pd_ix pd_v (pd_c (cal__law_draw T) hr hgd (takes_of rfl rfl rfl rfl) (pda_cons pd_v (pda_cons (pd_len T.n_len (pda_cons pd_v pda_nil)) pda_nil))))))
theorem cal__law_pick (T : Txt K mg) : CalF Pr w K mg base 2 "_law_pick" T.a__law_pick T.d__law_pick ["pool", "some"] false m__law_pick := ⟨fn__law_pick T, T.g__law_pick, T.F__law_pick.kp, T.b__law_pick⟩
theorem sc__law_refused_right : FnScope N__law_refused_right ["pool", "call", "args", "some"] (defScope (top 30)) := ⟨rfl, rfl, rfl, by decide +kernel, rfl, by decide +kernel, by decide +kernel⟩
set_option maxRecDepth 100000 in
set_option maxHeartbeats 8000000 in
theorem fn__law_refused_right (T : Txt K mg) : FnD Pr w K mg base 9 T.a__law_refused_right T.d__law_refused_right ["pool", "call", "args", "some"] false m__law_refused_right := by
  show FnD _ _ _ _ _ _ _ _ _ _ (runB b__law_refused_right (N__law_refused_right).length)
  refine fnD_of (own := []) T.F__law_refused_right sc__law_refused_right (by decide) (fun cd A outer s H E hr hgd => ?_)
  · have hu := hr.u64
    have hu5 := hr.u65
    have nd := sc__law_refused_right.nd
    exact (pdss_cons (pds_for [5, 6, 7] (passes_of rfl) rfl (pdi_range1 T.n_range (pda_cons (pd_len T.n_len (pda_cons pd_v pda_nil)) pda_nil)) (pdg_name false nd rfl (.inl rfl)) (pdss_one (pds_for [5, 6, 7] (passes_of rfl) rfl (pdi_seq (pd_lc [("each", 11)] rfl nd (pdi_seq (pd_ix pd_v pd_v)) (blkOk_by rfl) (fun _ _ _ _ _ => (pdg_name false nd rfl (.inl rfl))) (fun _ _ _ _ _ => (pdts_one (pdt_cmp (op_eqP hu) o_eq (pd_c (cal__law_draw T) hr hgd takes0 (pda_cons pd_v (pda_cons pd_int pda_nil))) pd_int (nomark _)))) (fun _ _ _ _ _ => pd_v))) (pdg_tupX rfl (pdgs_cons (pdg_name false nd rfl (.inl rfl)) (pdgs_cons (pdg_name false nd rfl (.inl rfl)) (pdgs_cons (pdg_name false nd rfl (.inl rfl)) pdgs_nil)))) (pdss_cons (pds_set false nd rfl (.inl rfl) (pd_c (cal__law_heard T) hr hgd (takes_of rfl rfl rfl rfl) (pda_cons pd_v (pda_cons (pd_add (pd_add (pd_slice pd_v pdo_none (pdo_some pd_v)) (pd_tup (pda_cons pd_v pda_nil))) (pd_slice pd_v (pdo_some (pd_add pd_v pd_int)) pdo_none)) pda_nil)))) (pdss_one (pds_if (PW.pdt (pdw_or (pdt_cmp (op_neP hu) o_eq (pd_ix pd_v pd_int) pd_v (nomark _)) (pdw_or1 (pdt_cmp (op_neP hu) o_eq (pd_reprX hgd hu5 T.n_repr (pda_cons (pd_ix pd_v pd_int) pda_nil)) (pd_reprX hgd hu5 T.n_repr (pda_cons pd_v pda_nil)) (nomark _))))) (pdss_one (pds_ret pd_bl)) pdss_nil)))))) (pdss_cons (pds_for [9, 10] (passes_of rfl) rfl (pdi_range1 T.n_range (pda_cons (pd_sub (pd_len T.n_len (pda_cons pd_v pda_nil)) pd_int) pda_nil)) (pdg_name false nd rfl (.inl rfl)) (pdss_cons (pds_par false rfl nd rfl rfl (by decide) rfl rfl (pda_cons (pd_c (cal__law_pick T) hr hgd (takes_of rfl rfl rfl rfl) (pda_cons pd_v (pda_cons (pd_ix pd_v pd_v) pda_nil))) (pda_cons (pd_c (cal__law_pick T) hr hgd (takes_of rfl rfl rfl rfl) (pda_cons pd_v (pda_cons (pd_ix pd_v (pd_add pd_v pd_int)) pda_nil))) pda_nil)) rfl) (pdss_cons (pds_set false nd rfl (.inl rfl) (pd_c (cal__law_heard T) hr hgd (takes_of rfl rfl rfl rfl) (pda_cons pd_v (pda_cons (pd_add (pd_add (pd_slice pd_v pdo_none (pdo_some pd_v)) (pd_tup (pda_cons (pd_ix pd_v pd_int) (pda_cons (pd_ix pd_v pd_int) pda_nil)))) (pd_slice pd_v (pdo_some (pd_add pd_v pd_int)) pdo_none)) pda_nil)))) (pdss_one (pds_if (PW.pdt (pdw_or (pdt_cmp (op_neP hu) o_eq (pd_ix pd_v pd_int) (pd_ix pd_v pd_int) (nomark _)) (pdw_or1 (pdt_cmp (op_neP hu) o_eq (pd_reprX hgd hu5 T.n_repr (pda_cons (pd_ix pd_v pd_int) pda_nil)) (pd_reprX hgd hu5 T.n_repr (pda_cons (pd_ix pd_v pd_int) pda_nil)) (nomark _))))) (pdss_one (pds_ret pd_bl)) pdss_nil))))) (pdss_one (pds_ret (pd_eq hu (pd_ix (pd_c (cal__law_heard T) hr hgd (takes_of rfl rfl rfl rfl) (pda_cons pd_v (pda_cons pd_v pda_nil))) pd_int) pd_str)))))
theorem cal__law_refused_right (T : Txt K mg) : CalF Pr w K mg base 9 "_law_refused_right" T.a__law_refused_right T.d__law_refused_right ["pool", "call", "args", "some"] false m__law_refused_right := ⟨fn__law_refused_right T, T.g__law_refused_right, T.F__law_refused_right.kp, T.b__law_refused_right⟩
theorem sc__law_right : FnScope N__law_right ["pool"] (defScope (top 33)) := ⟨rfl, rfl, rfl, by decide +kernel, rfl, by decide +kernel, by decide +kernel⟩
set_option maxRecDepth 100000 in
set_option maxHeartbeats 8000000 in
theorem fn__law_right (T : Txt K mg) : FnD Pr w K mg base 10 T.a__law_right T.d__law_right ["pool"] false m__law_right := by
  show FnD _ _ _ _ _ _ _ _ _ _ (runB b__law_right (N__law_right).length)
  refine fnD_of (own := []) T.F__law_right sc__law_right (by decide) (fun cd A outer s H E hr hgd => ?_)
  · have hu := hr.u64
    have hu5 := hr.u65
    have nd := sc__law_right.nd
    exact (pdss_cons (pds_set false nd rfl (.inl rfl) (pd_c (cal__law_named T) hr hgd (takes_of rfl rfl rfl rfl) (pda_cons (pd_c0 (cal__law_no_fractions T) hr hgd (takes_of rfl rfl rfl rfl)) (pda_cons pd_str pda_nil)))) (pdss_cons (pds_for [2, 3, 4, 5, 6, 7, 8] (passes_of rfl) rfl (pdi_range1 T.n_range (pda_cons pd_int pda_nil)) (pdg_name false nd rfl (.inl rfl)) (pdss_cons (pds_par false rfl nd rfl rfl (by decide) rfl rfl (pda_cons (pd_c (cal__law_f T) hr hgd (takes_of rfl rfl rfl rfl) (pda_cons (pd_sub (pd_c (cal__law_draw T) hr hgd (takes_of rfl rfl rfl rfl) (pda_cons pd_v (pda_cons pd_int pda_nil))) pd_int) (pda_cons (pd_add pd_int (pd_c (cal__law_draw T) hr hgd (takes_of rfl rfl rfl rfl) (pda_cons pd_v (pda_cons pd_int pda_nil)))) pda_nil))) (pda_cons (pd_c (cal__law_f T) hr hgd (takes_of rfl rfl rfl rfl) (pda_cons (pd_add pd_int (pd_c (cal__law_draw T) hr hgd (takes_of rfl rfl rfl rfl) (pda_cons pd_v (pda_cons pd_int pda_nil)))) (pda_cons (pd_add pd_int (pd_c (cal__law_draw T) hr hgd (takes_of rfl rfl rfl rfl) (pda_cons pd_v (pda_cons pd_int pda_nil)))) pda_nil))) pda_nil)) rfl) (pdss_cons (pds_for [5] (passes_of rfl) rfl (pdi_seq (pd_lst (pda_cons (pd_fn (cal_plus T)) (pda_cons (pd_fn (cal_less T)) (pda_cons (pd_fn (cal_times T)) (pda_cons (pd_fn (cal_over T)) (pda_cons (pd_fn (cal_is_below T)) pda_nil))))))) (pdg_name false nd rfl (.inl rfl)) (pdss_one (pds_if (pdt_not (pdt_val (pd_c (cal__law_refused_right T) hr hgd (takes_of rfl rfl rfl rfl) (pda_cons pd_v (pda_cons pd_v (pda_cons (pd_tup (pda_cons pd_v (pda_cons pd_v pda_nil))) (pda_cons (pd_lst (pda_cons pd_v (pda_cons pd_v pda_nil))) pda_nil))))))) (pdss_one (pds_ret pd_bl)) pdss_nil))) (pdss_cons (pds_if (PW.pdt (pdw_or (pdt_cmp (op_neP hu) o_eq (pd_c (cal__law_heard T) hr hgd (takes_of rfl rfl rfl rfl) (pda_cons (pd_fn (cal_over T)) (pda_cons (pd_tup (pda_cons pd_v (pda_cons (pd_tup (pda_cons pd_int (pda_cons pd_int pda_nil))) pda_nil))) pda_nil))) (pd_lst (pda_cons pd_str (pda_cons (pd_tup (pda_cons pd_int (pda_cons pd_int pda_nil))) pda_nil))) (nomark _)) (pdw_or (pdt_cmp (op_neP hu) o_eq (pd_c (cal__law_heard T) hr hgd (takes_of rfl rfl rfl rfl) (pda_cons (pd_fn (cal_over T)) (pda_cons (pd_tup (pda_cons (pd_tup (pda_cons pd_int (pda_cons pd_int pda_nil))) (pda_cons (pd_tup (pda_cons pd_int (pda_cons pd_int pda_nil))) pda_nil))) pda_nil))) (pd_lst (pda_cons pd_str (pda_cons (pd_tup (pda_cons pd_int (pda_cons pd_int pda_nil))) pda_nil))) (nomark _)) (pdw_or1 (pdt_cmp (op_neP hu) o_eq (pd_c (cal__law_heard T) hr hgd (takes_of rfl rfl rfl rfl) (pda_cons (pd_fn (cal_over T)) (pda_cons (pd_tup (pda_cons (pd_tup (pda_cons pd_int (pda_cons pd_int pda_nil))) (pda_cons pd_v pda_nil))) pda_nil))) (pd_lst (pda_cons pd_str (pda_cons pd_non pda_nil))) (nomark _)))))) (pdss_one (pds_ret pd_bl)) pdss_nil) (pdss_cons (pds_set false nd rfl (.inl rfl) (pd_c (cal__law_named T) hr hgd (takes_of rfl rfl rfl rfl) (pda_cons (pd_lst (pda_cons pd_non (pda_cons (pd_tup pda_nil) (pda_cons pd_str (pda_cons pd_bl (pda_cons pd_bl (pda_cons (pd_tup (pda_cons pd_int (pda_cons pd_int pda_nil))) (pda_cons (pd_lst (pda_cons pd_int pda_nil)) (pda_cons pd_dct0 pda_nil))))))))) (pda_cons pd_str pda_nil)))) (pdss_cons (pds_par false rfl nd rfl rfl (by decide) rfl rfl (pda_cons (pd_sub (pd_c (cal__law_draw T) hr hgd (takes_of rfl rfl rfl rfl) (pda_cons pd_v (pda_cons pd_int pda_nil))) pd_int) (pda_cons (pd_mul (pd_add pd_int (pd_c (cal__law_draw T) hr hgd (takes_of rfl rfl rfl rfl) (pda_cons pd_v (pda_cons pd_int pda_nil)))) (pd_c (cal__law_pick T) hr hgd (takes_of rfl rfl rfl rfl) (pda_cons pd_v (pda_cons (pd_lst (pda_cons pd_int (pda_cons (pd_neg pd_int) pda_nil))) pda_nil)))) pda_nil)) rfl) (pdss_one (pds_if (pdt_not (pdt_val (pd_c (cal__law_refused_right T) hr hgd (takes_of rfl rfl rfl rfl) (pda_cons pd_v (pda_cons (pd_fn (cal_plain T)) (pda_cons (pd_tup (pda_cons pd_v (pda_cons pd_v pda_nil))) (pda_cons (pd_lst (pda_cons pd_v (pda_cons (pd_add pd_v (pd_c (cal__law_named T) hr hgd (takes_of rfl rfl rfl rfl) (pda_cons (pd_lst (pda_cons pd_int pda_nil)) (pda_cons pd_str pda_nil)))) pda_nil))) pda_nil))))))) (pdss_one (pds_ret pd_bl)) pdss_nil)))))))) (pdss_one (pds_ret (pd_and (pd_eq hu (pd_c (cal__law_heard T) hr hgd (takes_of rfl rfl rfl rfl) (pda_cons (pd_fn (cal_plain T)) (pda_cons (pd_tup (pda_cons pd_bl (pda_cons pd_int pda_nil))) pda_nil))) (pd_lst (pda_cons pd_str (pda_cons pd_bl pda_nil)))) (pd_one (pd_eq hu (pd_c (cal__law_heard T) hr hgd (takes_of rfl rfl rfl rfl) (pda_cons (pd_fn (cal_plain T)) (pda_cons (pd_tup (pda_cons pd_int (pda_cons pd_int pda_nil))) pda_nil))) (pd_lst (pda_cons pd_str (pda_cons pd_int pda_nil))))))))))
theorem cal__law_right (T : Txt K mg) : CalF Pr w K mg base 10 "_law_right" T.a__law_right T.d__law_right ["pool"] false m__law_right := ⟨fn__law_right T, T.g__law_right, T.F__law_right.kp, T.b__law_right⟩
theorem sc__law_pool : FnScope N__law_pool ["script", "turn"] (defScope (top 25)) := ⟨rfl, rfl, rfl, by decide +kernel, rfl, by decide +kernel, by decide +kernel⟩
set_option maxRecDepth 100000 in
set_option maxHeartbeats 8000000 in
theorem fn__law_pool (T : Txt K mg) : FnD Pr w K mg base 1 T.a__law_pool T.d__law_pool ["script", "turn"] true m__law_pool := by
  show FnD _ _ _ _ _ _ _ _ _ _ (runNew p__law_pool (dCons (d2 modD (dA intD (dCons (d2 addD (dVar 3) (d2 mulD (dVar 2) (dC (.int 1013)))) dNil)) (dC (.int 2147483497))) (dCons (dIte (dOr (dB (d2 ltD (dVar 2) (dC (.int 0)))) (dB (d2 geD (dVar 2) (d2 powD (dC (.int 10)) (dC (.int 18)))))) (dA absD (dCons (dVar 2) dNil)) (dC (.int 0))) (dCons (dC (.int 0)) dNil))) (N__law_pool).length)
  refine fnD_new T.F__law_pool sc__law_pool (fun cd A outer s H E hr hgd => ?_)
  · have hu := hr.u64
    have hu5 := hr.u65
    have nd := sc__law_pool.nd
    exact (pss_cons (pds_par false rfl nd rfl rfl (by decide) rfl rfl (pda_cons (pd_ite (pdt_cmp op_lt o_cmp pd_v (pd_len T.n_len (pda_cons pd_v pda_nil)) (nomark _)) (pd_intc T.n_int (pda_cons (pd_ix pd_v pd_v) pda_nil)) (pd_add (pd_mul pd_int pd_v) pd_int)) (pda_cons (pd_add pd_int (pd_mul pd_int pd_v)) pda_nil)) rfl) (pss_cons (pds_for [4] (passes_of rfl) rfl (pdi_seq (pd_slice pd_v pdo_none (pdo_some pd_int))) (pdg_name false nd rfl (.inl rfl)) (pdss_one (pds_set false nd rfl (.inl rfl) (pd_mod (pd_intc T.n_int (pda_cons (pd_add (pd_add (pd_mul pd_v pd_int) (pd_mod (pd_intc T.n_int (pda_cons pd_v pda_nil)) pd_int)) pd_int) pda_nil)) pd_int)))) (pss_one (ps_ret (pe_lst (pda_cons (pd_mod (pd_intc T.n_int (pda_cons (pd_add pd_v (pd_mul pd_v pd_int)) pda_nil)) pd_int) (pda_cons (pd_ite (PW.pdt (pdw_or (pdt_cmp op_lt o_cmp pd_v pd_int (nomark _)) (pdw_or1 (pdt_cmp op_ge o_cmp pd_v (pd_pow pd_int pd_int) (nomark _))))) (pd_abs T.n_abs (pda_cons pd_v pda_nil)) pd_int) (pda_cons pd_int pda_nil))))))))
theorem cal__law_pool (T : Txt K mg) : CalF Pr w K mg base 1 "_law_pool" T.a__law_pool T.d__law_pool ["script", "turn"] true m__law_pool := ⟨fn__law_pool T, T.g__law_pool, T.F__law_pool.kp, T.b__law_pool⟩
theorem sc_law : FnScope N_law ["script"] (defScope (top 34)) := ⟨rfl, rfl, rfl, by decide +kernel, rfl, by decide +kernel, by decide +kernel⟩
set_option maxRecDepth 100000 in
set_option maxHeartbeats 8000000 in
theorem fn_law (T : Txt K mg) : FnD Pr w K mg base 11 T.a_law T.d_law ["script"] false m_law := by
  show FnD _ _ _ _ _ _ _ _ _ _ (runB b_law (N_law).length)
  refine fnD_of (own := []) T.F_law sc_law (by decide) (fun cd A outer s H E hr hgd => ?_)
  · have hu := hr.u64
    have hu5 := hr.u65
    have nd := sc_law.nd
    exact (pdss_cons (pds_for [1] (passes_of rfl) rfl (pdi_range1 T.n_range (pda_cons (pd_max rfl T.n_max (pda_cons pd_int (pda_cons (pd_min rfl T.n_min (pda_cons (pd_len T.n_len (pda_cons pd_v pda_nil)) (pda_cons pd_int pda_nil))) pda_nil))) pda_nil)) (pdg_name false nd rfl (.inl rfl)) (pdss_one (pds_if (pdt_not (pdt_val (pd_cP (cal__law_right T) (cal__law_pool T) hr hgd (takes_of rfl rfl rfl rfl) (pda_cons pd_v (pda_cons pd_v pda_nil))))) (pdss_one (pds_ret pd_bl)) pdss_nil))) (pdss_one (pds_ret pd_bl)))
theorem cal_law (T : Txt K mg) : CalF Pr w K mg base 11 "law" T.a_law T.d_law ["script"] false m_law := ⟨fn_law T, T.g_law, T.F_law.kp, T.b_law⟩
theorem all_mk {h : Heap} {fa w0 e0 i0 f0 f1 f2 f3 f4 f5 f6 f7 f8 f9 f10 f11 f12 f13 f14 f15 f16 f17 f18 f19 f20 f21 f22 f23 f24 : Addr} (X : K.In h) (G : h.Ns mainGlobals mg) (hfa : mg "law" = some (.ref fa))
    (z0 : PySem.W.nsIn K mainGlobals "ValueError" = some none)
    (z1 : PySem.W.nsIn K mainGlobals "abs" = some none)
    (z2 : PySem.W.nsIn K mainGlobals "bool" = some none)
    (z3 : PySem.W.nsIn K mainGlobals "divmod" = some none)
    (z4 : PySem.W.nsIn K mainGlobals "gcd" = some (some (.builtin "math.gcd")))
    (z5 : PySem.W.nsIn K mainGlobals "int" = some none)
    (z6 : PySem.W.nsIn K mainGlobals "isinstance" = some none)
    (z7 : PySem.W.nsIn K mainGlobals "len" = some none)
    (z8 : PySem.W.nsIn K mainGlobals "max" = some none)
    (z9 : PySem.W.nsIn K mainGlobals "min" = some none)
    (z10 : PySem.W.nsIn K mainGlobals "range" = some none)
    (z11 : PySem.W.nsIn K mainGlobals "repr" = some none)
    (z12 : PySem.W.nsIn K mainGlobals "tuple" = some none)
    {qG0 : Addr} {odG0 : Option Addr} {nG0 : Nat} {slG0 : Array (Option Value)} {tG0_0 : Tok} {tG0_1 : Tok}
    (zG0 : PySem.W.nsIn K mainGlobals "NOUGHT" = some (some (.ref qG0)))
    (yG0 : K.lookup qG0 = some ⟨.type "tuple", odG0, .seq #[(.int 0 tG0_0), (.int 1 tG0_1)] nG0, slG0⟩)
    (wa : PySem.W.nsIn K mainGlobals "WarmError" = some (some (.ref w0))) (wb : PySem.W.subIn K (.ref w0) (.type "BaseException") = some true) (wd : PySem.W.hasDictIn K w0 = true) (wt : PySem.W.typeIn K (.ref w0) = some (.type "type"))
    (zn : PySem.W.specialIn K (.builtin "object.__class__") "__get__" = some (some (.builtin "getset_descriptor.__get__"))) (zt : PySem.W.takesIn K (.builtin "object.__class__") = some true)
    (ea0 : PySem.W.nsIn K mainGlobals "InvalidFraction" = some (some (.ref e0))) (eK0 : PySem.W.keepIn K (.ref e0) = true) (eB0 : PySem.W.subIn K (.ref e0) (.type "BaseException") = some true) (eT0 : PySem.W.typeIn K (.ref e0) = some (.type "type")) (eD0 : PySem.W.hasDictIn K e0 = true)
    (eg0 : PySem.W.findIn K (.ref e0) "__getattribute__" = some (some (.builtin "BaseException.__getattribute__"))) (ek0 : PySem.W.findIn K (.ref e0) "__getattr__" = some none)
    (eh0 : PySem.W.findIn K (.ref e0) "__class__" = some (some (.builtin "object.__class__"))) (em0 : PySem.W.mroIn K e0 (.type "object") = some true) (eW0 : PySem.W.subIn K (.ref e0) (.ref w0) = some true) (eV0 : PySem.W.kitOne K (.ref e0) (.type "ValueError") = some true)
    {nm_0 qq_0 : Str} {N_0 B_0 : Addr} {bs_0 : List Value} {sn_0 : List Str} {sub_0 : List Value} {ab_0 : Bool} {col_0 : Option Bool} {dd_0 : Option Addr} {m0_0 m1_0 m2_0 m3_0 m5_0 : Option Value} {oc0_0 : Value} {od0_0 : Option Addr} {doc0_0 pm0_0 : Value} {an0_0 : Option Addr} {cdv0_0 ct0_0 : Value} {osl0_0 : Array (Option Value)} {p1_0 p2_0 q1_0 q2_0 q3_0 q4_0 : Pos}
    (ex0 : K.lookup e0 = some (excClassObj nm_0 qq_0 e0 N_0 bs_0 [.ref B_0, .type "ValueError", .type "Exception", .type "BaseException", .type "object"] true sn_0 sub_0 ab_0 col_0 dd_0 m0_0 m1_0 m2_0 m3_0 m5_0 "ValueError.__new__"))
    (es0 : PySem.W.findIn K (.ref e0) "__setattr__" = some (some (.builtin "object.__setattr__"))) (en0 : PySem.W.findIn K (.ref e0) "given" = some none) (ei0 : PySem.W.findIn K (.ref e0) "__init__" = some (some (.ref i0))) (et0 : PySem.W.typeIn K (.ref i0) = some (.type "function"))
    (el0 : K.lookup i0 = some ⟨oc0_0, od0_0, .func (PySem.W.fnOf "__init__" "InvalidFraction.__init__" (PySem.LowG.iA p1_0 p2_0) (PySem.LowG.iB q1_0 q2_0 q3_0 q4_0) PySem.LowG.iS .none .none doc0_0 pm0_0 an0_0 cdv0_0 ct0_0), osl0_0⟩) (ec0 : PySem.W.codeIn K cdv0_0 "InvalidFraction.__init__" = true)
    {od0 an0 : Option Addr} {sl0 : Array (Option Value)} {oc0 kV0 dc0 pm0 cd0 ct0 : Value}
    (a0 : PySem.W.nsIn K mainGlobals "_law_named" = some (some (.ref f0)))
    (l0 : K.lookup f0 = some ⟨oc0, od0, .func (PySem.W.fnOf "_law_named" "_law_named" (defArgs (top 31)) (defBody (top 31)) (defScope (top 31)) .none kV0 dc0 pm0 an0 cd0 ct0), sl0⟩)
    (c0 : PySem.W.codeIn K cd0 "_law_named" = true) (k0 : PySem.W.keepIn K (.ref f0) = true)
    {od1 an1 : Option Addr} {sl1 : Array (Option Value)} {oc1 kV1 dc1 pm1 cd1 ct1 : Value}
    (a1 : PySem.W.nsIn K mainGlobals "_law_no_fractions" = some (some (.ref f1)))
    (l1 : K.lookup f1 = some ⟨oc1, od1, .func (PySem.W.fnOf "_law_no_fractions" "_law_no_fractions" (defArgs (top 32)) (defBody (top 32)) (defScope (top 32)) .none kV1 dc1 pm1 an1 cd1 ct1), sl1⟩)
    (c1 : PySem.W.codeIn K cd1 "_law_no_fractions" = true) (k1 : PySem.W.keepIn K (.ref f1) = true)
    {od2 an2 : Option Addr} {sl2 : Array (Option Value)} {oc2 kV2 dc2 pm2 cd2 ct2 : Value}
    (a2 : PySem.W.nsIn K mainGlobals "_law_f" = some (some (.ref f2)))
    (l2 : K.lookup f2 = some ⟨oc2, od2, .func (PySem.W.fnOf "_law_f" "_law_f" (defArgs (top 28)) (defBody (top 28)) (defScope (top 28)) .none kV2 dc2 pm2 an2 cd2 ct2), sl2⟩)
    (c2 : PySem.W.codeIn K cd2 "_law_f" = true) (k2 : PySem.W.keepIn K (.ref f2) = true)
    {od3 an3 : Option Addr} {sl3 : Array (Option Value)} {oc3 kV3 dc3 pm3 cd3 ct3 : Value}
    (a3 : PySem.W.nsIn K mainGlobals "_law_draw" = some (some (.ref f3)))
    (l3 : K.lookup f3 = some ⟨oc3, od3, .func (PySem.W.fnOf "_law_draw" "_law_draw" (defArgs (top 26)) (defBody (top 26)) (defScope (top 26)) .none kV3 dc3 pm3 an3 cd3 ct3), sl3⟩)
    (c3 : PySem.W.codeIn K cd3 "_law_draw" = true) (k3 : PySem.W.keepIn K (.ref f3) = true)
    {od4 an4 : Option Addr} {sl4 : Array (Option Value)} {oc4 kV4 dc4 pm4 cd4 ct4 : Value}
    (a4 : PySem.W.nsIn K mainGlobals "is_tuple_up_to" = some (some (.ref f4)))
    (l4 : K.lookup f4 = some ⟨oc4, od4, .func (PySem.W.fnOf "is_tuple_up_to" "is_tuple_up_to" (defArgs (top 10)) (defBody (top 10)) (defScope (top 10)) .none kV4 dc4 pm4 an4 cd4 ct4), sl4⟩)
    (c4 : PySem.W.codeIn K cd4 "is_tuple_up_to" = true) (k4 : PySem.W.keepIn K (.ref f4) = true)
    {od5 an5 : Option Addr} {sl5 : Array (Option Value)} {oc5 kV5 dc5 pm5 cd5 ct5 : Value}
    (a5 : PySem.W.nsIn K mainGlobals "is_tuple_of" = some (some (.ref f5)))
    (l5 : K.lookup f5 = some ⟨oc5, od5, .func (PySem.W.fnOf "is_tuple_of" "is_tuple_of" (defArgs (top 11)) (defBody (top 11)) (defScope (top 11)) .none kV5 dc5 pm5 an5 cd5 ct5), sl5⟩)
    (c5 : PySem.W.codeIn K cd5 "is_tuple_of" = true) (k5 : PySem.W.keepIn K (.ref f5) = true)
    {od6 an6 : Option Addr} {sl6 : Array (Option Value)} {oc6 kV6 dc6 pm6 cd6 ct6 : Value}
    (a6 : PySem.W.nsIn K mainGlobals "is_pair" = some (some (.ref f6)))
    (l6 : K.lookup f6 = some ⟨oc6, od6, .func (PySem.W.fnOf "is_pair" "is_pair" (defArgs (top 12)) (defBody (top 12)) (defScope (top 12)) .none kV6 dc6 pm6 an6 cd6 ct6), sl6⟩)
    (c6 : PySem.W.codeIn K cd6 "is_pair" = true) (k6 : PySem.W.keepIn K (.ref f6) = true)
    {od7 an7 : Option Addr} {sl7 : Array (Option Value)} {oc7 kV7 dc7 pm7 cd7 ct7 : Value}
    (a7 : PySem.W.nsIn K mainGlobals "is_whole" = some (some (.ref f7)))
    (l7 : K.lookup f7 = some ⟨oc7, od7, .func (PySem.W.fnOf "is_whole" "is_whole" (defArgs (top 8)) (defBody (top 8)) (defScope (top 8)) .none kV7 dc7 pm7 an7 cd7 ct7), sl7⟩)
    (c7 : PySem.W.codeIn K cd7 "is_whole" = true) (k7 : PySem.W.keepIn K (.ref f7) = true)
    {od8 an8 : Option Addr} {sl8 : Array (Option Value)} {oc8 kV8 dc8 pm8 cd8 ct8 : Value}
    (a8 : PySem.W.nsIn K mainGlobals "is_from" = some (some (.ref f8)))
    (l8 : K.lookup f8 = some ⟨oc8, od8, .func (PySem.W.fnOf "is_from" "is_from" (defArgs (top 9)) (defBody (top 9)) (defScope (top 9)) .none kV8 dc8 pm8 an8 cd8 ct8), sl8⟩)
    (c8 : PySem.W.codeIn K cd8 "is_from" = true) (k8 : PySem.W.keepIn K (.ref f8) = true)
    {od9 an9 : Option Addr} {sl9 : Array (Option Value)} {oc9 kV9 dc9 pm9 cd9 ct9 : Value}
    (a9 : PySem.W.nsIn K mainGlobals "is_fraction_of" = some (some (.ref f9)))
    (l9 : K.lookup f9 = some ⟨oc9, od9, .func (PySem.W.fnOf "is_fraction_of" "is_fraction_of" (defArgs (top 14)) (defBody (top 14)) (defScope (top 14)) .none kV9 dc9 pm9 an9 cd9 ct9), sl9⟩)
    (c9 : PySem.W.codeIn K cd9 "is_fraction_of" = true) (k9 : PySem.W.keepIn K (.ref f9) = true)
    {od10 an10 : Option Addr} {sl10 : Array (Option Value)} {oc10 kV10 dc10 pm10 cd10 ct10 : Value}
    (a10 : PySem.W.nsIn K mainGlobals "check_fraction" = some (some (.ref f10)))
    (l10 : K.lookup f10 = some ⟨oc10, od10, .func (PySem.W.fnOf "check_fraction" "check_fraction" (defArgs (top 15)) (defBody (top 15)) (defScope (top 15)) .none kV10 dc10 pm10 an10 cd10 ct10), sl10⟩)
    (c10 : PySem.W.codeIn K cd10 "check_fraction" = true) (k10 : PySem.W.keepIn K (.ref f10) = true)
    {od11 an11 : Option Addr} {sl11 : Array (Option Value)} {oc11 kV11 dc11 pm11 cd11 ct11 : Value}
    (a11 : PySem.W.nsIn K mainGlobals "check_two" = some (some (.ref f11)))
    (l11 : K.lookup f11 = some ⟨oc11, od11, .func (PySem.W.fnOf "check_two" "check_two" (defArgs (top 18)) (defBody (top 18)) (defScope (top 18)) .none kV11 dc11 pm11 an11 cd11 ct11), sl11⟩)
    (c11 : PySem.W.codeIn K cd11 "check_two" = true) (k11 : PySem.W.keepIn K (.ref f11) = true)
    {od12 an12 : Option Addr} {sl12 : Array (Option Value)} {oc12 kV12 dc12 pm12 cd12 ct12 : Value}
    (a12 : PySem.W.nsIn K mainGlobals "is_below" = some (some (.ref f12)))
    (l12 : K.lookup f12 = some ⟨oc12, od12, .func (PySem.W.fnOf "is_below" "is_below" (defArgs (top 23)) (defBody (top 23)) (defScope (top 23)) .none kV12 dc12 pm12 an12 cd12 ct12), sl12⟩)
    (c12 : PySem.W.codeIn K cd12 "is_below" = true) (k12 : PySem.W.keepIn K (.ref f12) = true)
    {od13 an13 : Option Addr} {sl13 : Array (Option Value)} {oc13 kV13 dc13 pm13 cd13 ct13 : Value}
    (a13 : PySem.W.nsIn K mainGlobals "plain_of" = some (some (.ref f13)))
    (l13 : K.lookup f13 = some ⟨oc13, od13, .func (PySem.W.fnOf "plain_of" "plain_of" (defArgs (top 6)) (defBody (top 6)) (defScope (top 6)) .none kV13 dc13 pm13 an13 cd13 ct13), sl13⟩)
    (c13 : PySem.W.codeIn K cd13 "plain_of" = true) (k13 : PySem.W.keepIn K (.ref f13) = true)
    {od14 an14 : Option Addr} {sl14 : Array (Option Value)} {oc14 kV14 dc14 pm14 cd14 ct14 : Value}
    (a14 : PySem.W.nsIn K mainGlobals "over" = some (some (.ref f14)))
    (l14 : K.lookup f14 = some ⟨oc14, od14, .func (PySem.W.fnOf "over" "over" (defArgs (top 22)) (defBody (top 22)) (defScope (top 22)) .none kV14 dc14 pm14 an14 cd14 ct14), sl14⟩)
    (c14 : PySem.W.codeIn K cd14 "over" = true) (k14 : PySem.W.keepIn K (.ref f14) = true)
    {od15 an15 : Option Addr} {sl15 : Array (Option Value)} {oc15 kV15 dc15 pm15 cd15 ct15 : Value}
    (a15 : PySem.W.nsIn K mainGlobals "times" = some (some (.ref f15)))
    (l15 : K.lookup f15 = some ⟨oc15, od15, .func (PySem.W.fnOf "times" "times" (defArgs (top 21)) (defBody (top 21)) (defScope (top 21)) .none kV15 dc15 pm15 an15 cd15 ct15), sl15⟩)
    (c15 : PySem.W.codeIn K cd15 "times" = true) (k15 : PySem.W.keepIn K (.ref f15) = true)
    {od16 an16 : Option Addr} {sl16 : Array (Option Value)} {oc16 kV16 dc16 pm16 cd16 ct16 : Value}
    (a16 : PySem.W.nsIn K mainGlobals "less" = some (some (.ref f16)))
    (l16 : K.lookup f16 = some ⟨oc16, od16, .func (PySem.W.fnOf "less" "less" (defArgs (top 20)) (defBody (top 20)) (defScope (top 20)) .none kV16 dc16 pm16 an16 cd16 ct16), sl16⟩)
    (c16 : PySem.W.codeIn K cd16 "less" = true) (k16 : PySem.W.keepIn K (.ref f16) = true)
    {od17 an17 : Option Addr} {sl17 : Array (Option Value)} {oc17 kV17 dc17 pm17 cd17 ct17 : Value}
    (a17 : PySem.W.nsIn K mainGlobals "plus" = some (some (.ref f17)))
    (l17 : K.lookup f17 = some ⟨oc17, od17, .func (PySem.W.fnOf "plus" "plus" (defArgs (top 19)) (defBody (top 19)) (defScope (top 19)) .none kV17 dc17 pm17 an17 cd17 ct17), sl17⟩)
    (c17 : PySem.W.codeIn K cd17 "plus" = true) (k17 : PySem.W.keepIn K (.ref f17) = true)
    {od18 an18 : Option Addr} {sl18 : Array (Option Value)} {oc18 kV18 dc18 pm18 cd18 ct18 : Value}
    (a18 : PySem.W.nsIn K mainGlobals "plain" = some (some (.ref f18)))
    (l18 : K.lookup f18 = some ⟨oc18, od18, .func (PySem.W.fnOf "plain" "plain" (defArgs (top 17)) (defBody (top 17)) (defScope (top 17)) .none kV18 dc18 pm18 an18 cd18 ct18), sl18⟩)
    (c18 : PySem.W.codeIn K cd18 "plain" = true) (k18 : PySem.W.keepIn K (.ref f18) = true)
    {od19 an19 : Option Addr} {sl19 : Array (Option Value)} {oc19 kV19 dc19 pm19 cd19 ct19 : Value}
    (a19 : PySem.W.nsIn K mainGlobals "_law_heard" = some (some (.ref f19)))
    (l19 : K.lookup f19 = some ⟨oc19, od19, .func (PySem.W.fnOf "_law_heard" "_law_heard" (defArgs (top 29)) (defBody (top 29)) (defScope (top 29)) .none kV19 dc19 pm19 an19 cd19 ct19), sl19⟩)
    (c19 : PySem.W.codeIn K cd19 "_law_heard" = true) (k19 : PySem.W.keepIn K (.ref f19) = true)
    {od20 an20 : Option Addr} {sl20 : Array (Option Value)} {oc20 kV20 dc20 pm20 cd20 ct20 : Value}
    (a20 : PySem.W.nsIn K mainGlobals "_law_pick" = some (some (.ref f20)))
    (l20 : K.lookup f20 = some ⟨oc20, od20, .func (PySem.W.fnOf "_law_pick" "_law_pick" (defArgs (top 27)) (defBody (top 27)) (defScope (top 27)) .none kV20 dc20 pm20 an20 cd20 ct20), sl20⟩)
    (c20 : PySem.W.codeIn K cd20 "_law_pick" = true) (k20 : PySem.W.keepIn K (.ref f20) = true)
    {od21 an21 : Option Addr} {sl21 : Array (Option Value)} {oc21 kV21 dc21 pm21 cd21 ct21 : Value}
    (a21 : PySem.W.nsIn K mainGlobals "_law_refused_right" = some (some (.ref f21)))
    (l21 : K.lookup f21 = some ⟨oc21, od21, .func (PySem.W.fnOf "_law_refused_right" "_law_refused_right" (defArgs (top 30)) (defBody (top 30)) (defScope (top 30)) .none kV21 dc21 pm21 an21 cd21 ct21), sl21⟩)
    (c21 : PySem.W.codeIn K cd21 "_law_refused_right" = true) (k21 : PySem.W.keepIn K (.ref f21) = true)
    {od22 an22 : Option Addr} {sl22 : Array (Option Value)} {oc22 kV22 dc22 pm22 cd22 ct22 : Value}
    (a22 : PySem.W.nsIn K mainGlobals "_law_right" = some (some (.ref f22)))
    (l22 : K.lookup f22 = some ⟨oc22, od22, .func (PySem.W.fnOf "_law_right" "_law_right" (defArgs (top 33)) (defBody (top 33)) (defScope (top 33)) .none kV22 dc22 pm22 an22 cd22 ct22), sl22⟩)
    (c22 : PySem.W.codeIn K cd22 "_law_right" = true) (k22 : PySem.W.keepIn K (.ref f22) = true)
    {od23 an23 : Option Addr} {sl23 : Array (Option Value)} {oc23 kV23 dc23 pm23 cd23 ct23 : Value}
    (a23 : PySem.W.nsIn K mainGlobals "_law_pool" = some (some (.ref f23)))
    (l23 : K.lookup f23 = some ⟨oc23, od23, .func (PySem.W.fnOf "_law_pool" "_law_pool" (defArgs (top 25)) (defBody (top 25)) (defScope (top 25)) .none kV23 dc23 pm23 an23 cd23 ct23), sl23⟩)
    (c23 : PySem.W.codeIn K cd23 "_law_pool" = true) (k23 : PySem.W.keepIn K (.ref f23) = true)
    {od24 an24 : Option Addr} {sl24 : Array (Option Value)} {oc24 kV24 dc24 pm24 cd24 ct24 : Value}
    (a24 : PySem.W.nsIn K mainGlobals "law" = some (some (.ref f24)))
    (l24 : K.lookup f24 = some ⟨oc24, od24, .func (PySem.W.fnOf "law" "law" (defArgs (top 34)) (defBody (top 34)) (defScope (top 34)) .none kV24 dc24 pm24 an24 cd24 ct24), sl24⟩)
    (c24 : PySem.W.codeIn K cd24 "law" = true) (k24 : PySem.W.keepIn K (.ref f24) = true) :
    ∃ fd : FuncData, (∀ (s : Shared) (u : Value), BindsTo s fd ⟨[u], []⟩ [("script", u)]) ∧ ∀ base : Heap, K.In base → base.Ns mainGlobals mg → FnD Pr w K mg base 11 fa fd ["script"] false m_law := by
  have e := hfa.symm.trans (PySem.W.mg_of X G a24)
  cases e
  have R__law_heard := rowsOk_of (K := K) (mg := mg) (base := .ref w0) (data := [(⟨"InvalidFraction", "fraction", some "given"⟩, e0)]) (show (rows__law_heard.map (·.w)).Nodup by decide +kernel) (by
    intro x hx
    simp only [List.mem_cons, List.not_mem_nil, or_false] at hx
    rcases hx with rfl
    · exact ⟨PySem.W.mg_of X G ea0, ⟨eg0, ek0, eB0, eD0, eh0, zn, zt, em0⟩, PySem.W.exm_ref wb wd wt eW0, eV0⟩) (by
    intro x hx y hy hne
    simp only [List.mem_cons, List.not_mem_nil, or_false] at hx hy
    rcases hx with rfl <;> rcases hy with rfl <;> first | exact (hne rfl).elim | assumption)
  have F0 := fun_mk (st := (top 31)) l0 c0 k0
  have b0 := F0.binds (ps := ["things", "word"]) fun _ _ _ _ _ _ us hl => match us, hl with | [_, _], _ => rfl
  have F1 := fun_mk (st := (top 32)) l1 c1 k1
  have b1 := F1.binds (ps := []) fun _ _ _ _ _ _ us hl => match us, hl with | [], _ => rfl
  have F2 := fun_mk (st := (top 28)) l2 c2 k2
  have b2 := F2.binds (ps := ["top", "bottom"]) fun _ _ _ _ _ _ us hl => match us, hl with | [_, _], _ => rfl
  have F3 := fun_mk (st := (top 26)) l3 c3 k3
  have b3 := F3.binds (ps := ["pool", "many"]) fun _ _ _ _ _ _ us hl => match us, hl with | [_, _], _ => rfl
  have F4 := fun_mk (st := (top 10)) l4 c4 k4
  have b4 := F4.binds (ps := ["value", "low", "high"]) fun _ _ _ _ _ _ us hl => match us, hl with | [_, _, _], _ => rfl
  have F5 := fun_mk (st := (top 11)) l5 c5 k5
  have b5 := F5.binds (ps := ["value", "many"]) fun _ _ _ _ _ _ us hl => match us, hl with | [_, _], _ => rfl
  have F6 := fun_mk (st := (top 12)) l6 c6 k6
  have b6 := F6.binds (ps := ["value"]) fun _ _ _ _ _ _ us hl => match us, hl with | [_], _ => rfl
  have F7 := fun_mk (st := (top 8)) l7 c7 k7
  have b7 := F7.binds (ps := ["value"]) fun _ _ _ _ _ _ us hl => match us, hl with | [_], _ => rfl
  have F8 := fun_mk (st := (top 9)) l8 c8 k8
  have b8 := F8.binds (ps := ["value", "least"]) fun _ _ _ _ _ _ us hl => match us, hl with | [_, _], _ => rfl
  have F9 := fun_mk (st := (top 14)) l9 c9 k9
  have b9 := F9.binds (ps := ["value"]) fun _ _ _ _ _ _ us hl => match us, hl with | [_], _ => rfl
  have F10 := fun_mk (st := (top 15)) l10 c10 k10
  have b10 := F10.binds (ps := ["value"]) fun _ _ _ _ _ _ us hl => match us, hl with | [_], _ => rfl
  have F11 := fun_mk (st := (top 18)) l11 c11 k11
  have b11 := F11.binds (ps := ["fraction", "number"]) fun _ _ _ _ _ _ us hl => match us, hl with | [_, _], _ => rfl
  have F12 := fun_mk (st := (top 23)) l12 c12 k12
  have b12 := F12.binds (ps := ["fraction", "number"]) fun _ _ _ _ _ _ us hl => match us, hl with | [_, _], _ => rfl
  have F13 := fun_mk (st := (top 6)) l13 c13 k13
  have b13 := F13.binds (ps := ["top", "bottom"]) fun _ _ _ _ _ _ us hl => match us, hl with | [_, _], _ => rfl
  have F14 := fun_mk (st := (top 22)) l14 c14 k14
  have b14 := F14.binds (ps := ["fraction", "number"]) fun _ _ _ _ _ _ us hl => match us, hl with | [_, _], _ => rfl
  have F15 := fun_mk (st := (top 21)) l15 c15 k15
  have b15 := F15.binds (ps := ["fraction", "number"]) fun _ _ _ _ _ _ us hl => match us, hl with | [_, _], _ => rfl
  have F16 := fun_mk (st := (top 20)) l16 c16 k16
  have b16 := F16.binds (ps := ["fraction", "number"]) fun _ _ _ _ _ _ us hl => match us, hl with | [_, _], _ => rfl
  have F17 := fun_mk (st := (top 19)) l17 c17 k17
  have b17 := F17.binds (ps := ["fraction", "number"]) fun _ _ _ _ _ _ us hl => match us, hl with | [_, _], _ => rfl
  have F18 := fun_mk (st := (top 17)) l18 c18 k18
  have b18 := F18.binds (ps := ["top", "bottom"]) fun _ _ _ _ _ _ us hl => match us, hl with | [_, _], _ => rfl
  have F19 := fun_mk (st := (top 29)) l19 c19 k19
  have b19 := F19.binds (ps := ["call", "args"]) fun _ _ _ _ _ _ us hl => match us, hl with | [_, _], _ => rfl
  have F20 := fun_mk (st := (top 27)) l20 c20 k20
  have b20 := F20.binds (ps := ["pool", "some"]) fun _ _ _ _ _ _ us hl => match us, hl with | [_, _], _ => rfl
  have F21 := fun_mk (st := (top 30)) l21 c21 k21
  have b21 := F21.binds (ps := ["pool", "call", "args", "some"]) fun _ _ _ _ _ _ us hl => match us, hl with | [_, _, _, _], _ => rfl
  have F22 := fun_mk (st := (top 33)) l22 c22 k22
  have b22 := F22.binds (ps := ["pool"]) fun _ _ _ _ _ _ us hl => match us, hl with | [_], _ => rfl
  have F23 := fun_mk (st := (top 25)) l23 c23 k23
  have b23 := F23.binds (ps := ["script", "turn"]) fun _ _ _ _ _ _ us hl => match us, hl with | [_, _], _ => rfl
  have F24 := fun_mk (st := (top 34)) l24 c24 k24
  have b24 := F24.binds (ps := ["script"]) fun _ _ _ _ _ _ us hl => match us, hl with | [_], _ => rfl
  let T : Txt K mg := { n_ValueError := PySem.W.mg_none_of X G z0, n_abs := PySem.W.mg_none_of X G z1, n_bool := PySem.W.mg_none_of X G z2, n_divmod := PySem.W.mg_none_of X G z3, n_gcd := PySem.W.mg_of X G z4, n_int := PySem.W.mg_none_of X G z5, n_isinstance := PySem.W.mg_none_of X G z6, n_len := PySem.W.mg_none_of X G z7, n_max := PySem.W.mg_none_of X G z8, n_min := PySem.W.mg_none_of X G z9, n_range := PySem.W.mg_none_of X G z10, n_repr := PySem.W.mg_none_of X G z11, n_tuple := PySem.W.mg_none_of X G z12, c_NOUGHT := ⟨(V.ref qG0), _, PySem.W.mg_of X G zG0, rfl, (.tup2 (sqT_k (vs := [(V.int 0), (V.int 1)]) yG0 (Nat.le_of_ble_eq_true rfl) (.cons ⟨_, rfl⟩ (.cons ⟨_, rfl⟩ .nil))) (.int _) (.int _))⟩, cA_WarmError := w0, g_WarmError := PySem.W.mg_of X G wa, cA_InvalidFraction := e0, cI_InvalidFraction := i0, x_InvalidFraction := { gC := PySem.W.mg_of X G ea0, cls := ⟨_, _, _, _, _, _, _, _, _, _, _, _, _, _, _, ex0, refsVE_one _⟩, sa := es0, ga := eg0, gg := ek0, noN := en0, iC := ei0, tC := et0, kC := eK0, exC := eB0, tyC := eT0, hdC := eD0, fn := ⟨_, _, _, _, _, _, _, _, _, _, _, _, _, _, el0, ec0⟩ }, rk__law_heard := R__law_heard, a__law_named := f0, d__law_named := _, F__law_named := F0, g__law_named := PySem.W.mg_of X G a0, b__law_named := b0, a__law_no_fractions := f1, d__law_no_fractions := _, F__law_no_fractions := F1, g__law_no_fractions := PySem.W.mg_of X G a1, b__law_no_fractions := b1, a__law_f := f2, d__law_f := _, F__law_f := F2, g__law_f := PySem.W.mg_of X G a2, b__law_f := b2, a__law_draw := f3, d__law_draw := _, F__law_draw := F3, g__law_draw := PySem.W.mg_of X G a3, b__law_draw := b3, a_is_tuple_up_to := f4, d_is_tuple_up_to := _, F_is_tuple_up_to := F4, g_is_tuple_up_to := PySem.W.mg_of X G a4, b_is_tuple_up_to := b4, a_is_tuple_of := f5, d_is_tuple_of := _, F_is_tuple_of := F5, g_is_tuple_of := PySem.W.mg_of X G a5, b_is_tuple_of := b5, a_is_pair := f6, d_is_pair := _, F_is_pair := F6, g_is_pair := PySem.W.mg_of X G a6, b_is_pair := b6, a_is_whole := f7, d_is_whole := _, F_is_whole := F7, g_is_whole := PySem.W.mg_of X G a7, b_is_whole := b7, a_is_from := f8, d_is_from := _, F_is_from := F8, g_is_from := PySem.W.mg_of X G a8, b_is_from := b8, a_is_fraction_of := f9, d_is_fraction_of := _, F_is_fraction_of := F9, g_is_fraction_of := PySem.W.mg_of X G a9, b_is_fraction_of := b9, a_check_fraction := f10, d_check_fraction := _, F_check_fraction := F10, g_check_fraction := PySem.W.mg_of X G a10, b_check_fraction := b10, a_check_two := f11, d_check_two := _, F_check_two := F11, g_check_two := PySem.W.mg_of X G a11, b_check_two := b11, a_is_below := f12, d_is_below := _, F_is_below := F12, g_is_below := PySem.W.mg_of X G a12, b_is_below := b12, a_plain_of := f13, d_plain_of := _, F_plain_of := F13, g_plain_of := PySem.W.mg_of X G a13, b_plain_of := b13, a_over := f14, d_over := _, F_over := F14, g_over := PySem.W.mg_of X G a14, b_over := b14, a_times := f15, d_times := _, F_times := F15, g_times := PySem.W.mg_of X G a15, b_times := b15, a_less := f16, d_less := _, F_less := F16, g_less := PySem.W.mg_of X G a16, b_less := b16, a_plus := f17, d_plus := _, F_plus := F17, g_plus := PySem.W.mg_of X G a17, b_plus := b17, a_plain := f18, d_plain := _, F_plain := F18, g_plain := PySem.W.mg_of X G a18, b_plain := b18, a__law_heard := f19, d__law_heard := _, F__law_heard := F19, g__law_heard := PySem.W.mg_of X G a19, b__law_heard := b19, a__law_pick := f20, d__law_pick := _, F__law_pick := F20, g__law_pick := PySem.W.mg_of X G a20, b__law_pick := b20, a__law_refused_right := f21, d__law_refused_right := _, F__law_refused_right := F21, g__law_refused_right := PySem.W.mg_of X G a21, b__law_refused_right := b21, a__law_right := f22, d__law_right := _, F__law_right := F22, g__law_right := PySem.W.mg_of X G a22, b__law_right := b22, a__law_pool := f23, d__law_pool := _, F__law_pool := F23, g__law_pool := PySem.W.mg_of X G a23, b__law_pool := b23, a_law := fa, d_law := _, F_law := F24, g_law := PySem.W.mg_of X G a24, b_law := b24 }
  exact ⟨PySem.W.fnOf "law" "law" (defArgs (top 34)) (defBody (top 34)) (defScope (top 34)) .none kV24 dc24 pm24 an24 cd24 ct24, fun s u => .of_eq rfl, fun base _ _ => fn_law T⟩
end K01

end
section
/-! # The refused laws: what a call ends with; wrong arguments one by one, two by two -/
namespace RF
open PySem PySem.Spec L2 DL MW
def bHeard (tab : Str → Option (Nat × (List D → M D))) (rows : List XRow) : DEnv → M Fl :=
  (sSeq (sTry (sIf (dB (d2 (eqD false) (dA lenD (dCons (dVar 1) dNil)) (dC (.int 1)))) (sDrop (dCallV tab 0 (dCons (d2 ixD (dVar 1) (dC (.int 0))) dNil))) (sIf (dB (d2 (eqD false) (dA lenD (dCons (dVar 1) dNil)) (dC (.int 2)))) (sDrop (dCallV tab 0 (dCons (d2 ixD (dVar 1) (dC (.int 0))) (dCons (d2 ixD (dVar 1) (dC (.int 1))) dNil)))) (sIf (dB (d2 (eqD false) (dA lenD (dCons (dVar 1) dNil)) (dC (.int 3)))) (sDrop (dCallV tab 0 (dCons (d2 ixD (dVar 1) (dC (.int 0))) (dCons (d2 ixD (dVar 1) (dC (.int 1))) (dCons (d2 ixD (dVar 1) (dC (.int 2))) dNil))))) (sIf (dB (d2 (eqD false) (dA lenD (dCons (dVar 1) dNil)) (dC (.int 4)))) (sDrop (dCallV tab 0 (dCons (d2 ixD (dVar 1) (dC (.int 0))) (dCons (d2 ixD (dVar 1) (dC (.int 1))) (dCons (d2 ixD (dVar 1) (dC (.int 2))) (dCons (d2 ixD (dVar 1) (dC (.int 3))) dNil)))))) (sDrop (dCallV tab 0 (dCons (d2 ixD (dVar 1) (dC (.int 0))) (dCons (d2 ixD (dVar 1) (dC (.int 1))) (dCons (d2 ixD (dVar 1) (dC (.int 2))) (dCons (d2 ixD (dVar 1) (dC (.int 3))) (dCons (d2 ixD (dVar 1) (dC (.int 4))) dNil))))))))))) (hmOf rows)) (sRet (dA lstO (dCons (dC (.str "told")) (dCons (dC .non) dNil)))))
def cRef (draw : List D → M D) : DEnv → M Bool :=
  (dB (d2 (eqD false) (dCall 2 draw (dCons (dVar 0) (dCons (dC (.int 2)) dNil))) (dC (.int 0))))
def lRef3 (heard : List D → M D) : DEnv → M Fl :=
  (sSeq (sSet false 8 (dCall 2 heard (dCons (dVar 1) (dCons (d2 addD (d2 addD (dSl (dVar 2) oNone (oSome (dVar 4))) (dA tupO (dCons (dVar 5) dNil))) (dSl (dVar 2) (oSome (d2 addD (dVar 4) (dC (.int 1)))) oNone)) dNil)))) (sIf (dOr (dB (d2 (eqD true) (d2 ixD (dVar 8) (dC (.int 0))) (dVar 6))) (dB (d2 (eqD true) (dA reprX (dCons (d2 ixD (dVar 8) (dC (.int 1))) dNil)) (dA reprX (dCons (dVar 7) dNil))))) (sRet (dC (.bl false))) sNil))
def lRef4 (heard draw : List D → M D) : DEnv → M Fl :=
  (sFor (iSeq (dLc (iSeq (d2 ixD (dVar 3) (dVar 4))) [11] (pN false 11) (cRef draw) (dVar 11))) (pX [(pN false 5), (pN false 6), (pN false 7)]) [5, 6, 7] (lRef3 heard))
def lRef5 (heard pick : List D → M D) : DEnv → M Fl :=
  (sSeq (sPar false 9 10 (dCons (dCall 2 pick (dCons (dVar 0) (dCons (d2 ixD (dVar 3) (dVar 4)) dNil))) (dCons (dCall 2 pick (dCons (dVar 0) (dCons (d2 ixD (dVar 3) (d2 addD (dVar 4) (dC (.int 1)))) dNil))) dNil))) (sSeq (sSet false 8 (dCall 2 heard (dCons (dVar 1) (dCons (d2 addD (d2 addD (dSl (dVar 2) oNone (oSome (dVar 4))) (dA tupO (dCons (d2 ixD (dVar 9) (dC (.int 0))) (dCons (d2 ixD (dVar 10) (dC (.int 0))) dNil)))) (dSl (dVar 2) (oSome (d2 addD (dVar 4) (dC (.int 2)))) oNone)) dNil)))) (sIf (dOr (dB (d2 (eqD true) (d2 ixD (dVar 8) (dC (.int 0))) (d2 ixD (dVar 9) (dC (.int 1))))) (dB (d2 (eqD true) (dA reprX (dCons (d2 ixD (dVar 8) (dC (.int 1))) dNil)) (dA reprX (dCons (d2 ixD (dVar 9) (dC (.int 2))) dNil))))) (sRet (dC (.bl false))) sNil)))
def bRef (heard draw pick : List D → M D) : DEnv → M Fl :=
  (sSeq (sFor (iO rng1 (dCons (dA lenD (dCons (dVar 2) dNil)) dNil)) (pN false 4) [5, 6, 7] (lRef4 heard draw)) (sSeq (sFor (iO rng1 (dCons (d2 subD (dA lenD (dCons (dVar 2) dNil)) (dC (.int 1))) dNil)) (pN false 4) [9, 10] (lRef5 heard pick)) (sRet (d2 (eqD false) (d2 ixD (dCall 2 heard (dCons (dVar 1) (dCons (dVar 2) dNil))) (dC (.int 0))) (dC (.str "told"))))))

def _root_.DL.Out.tried (o : Out Fl) (hm : Str → Option (Str × D) → Option D) : Out Fl := match o with
  | .ok (.xc c d ε') p' => (match (if ε'.length = 4 then hm c d else none) with
    | some v => .ok (.rt v) p'
    | none => .bad)
  | o => o
@[simp] theorem sTry_ap (mb : DEnv → M Fl) (hm : Str → Option (Str × D) → Option D) (ε : DEnv) (p : Pool) : sTry mb hm ε p = (mb ε p).tried hm := rfl
@[simp] theorem tried_nx (ε : DEnv) (p : Pool) (hm : Str → Option (Str × D) → Option D) : (Out.ok (.nx ε) p).tried hm = .ok (.nx ε) p := rfl
@[simp] theorem tried_xc (a b c d : Option D) (k : Str) (x : Option (Str × D)) (p : Pool) (hm : Str → Option (Str × D) → Option D) {v : D} (h : hm k x = some v) : (Out.ok (.xc k x [a, b, c, d]) p).tried hm = .ok (.rt v) p := by
  show (match (if ([a, b, c, d] : DEnv).length = 4 then hm k x else none) with
    | some v => Out.ok (Fl.rt v) p
    | none => .bad) = _
  rw [if_pos (show ([a, b, c, d] : DEnv).length = 4 from rfl), h]
@[simp] theorem dCallV_ap (tab : Str → Option (Nat × (List D → M D))) (i : Nat) (fs : DEnv → M (List D)) (ε : DEnv) (p : Pool) : dCallV tab i fs ε p = (Out.ofO (ε[i]?.bind id) p).thn fun c p => (Out.ofO (fnO tab c) p).thn fun nm p => (fs ε p).thn fun ds p => if ds.length = nm.1 then nm.2 ds p else .bad := by
  show (Out.ofO (ε[i]?.bind id) p).thn (fun c p' => (Out.ofO (fnO tab c) p').thn fun nm p'' => (fs ε p'').thn fun ds p3 => (if ds.length = nm.1 then nm.2 ds else M.fail : M D) p3) = _
  congr; funext c p'; congr; funext nm p''; congr; funext ds p3; split <;> rfl
@[simp] theorem sRaise_ap (c fl : Str) (f : DEnv → M D) (ε : DEnv) (p : Pool) : sRaise c fl f ε p = (f ε p).sx ε fun d p => .ok (.xc c (some (fl, d)) ε) p := rfl
@[simp] theorem sRaise0_ap (c : Str) (ε : DEnv) (p : Pool) : sRaise0 c ε p = .ok (.xc c none ε) p := rfl
/-- how a call ends: an answer, an error -/
inductive End where
  | told | err (c : Str) (d : Option (Str × D))
def Ends (o : Out D) (p : Pool) : End → Prop
  | .told => ∃ v, o = .ok v p
  | .err c d => o = .ex c d p
def hear (rows : List XRow) : End → Option D
  | .told => some (.lst [.str "told", .non])
  | .err c d => hmOf rows c d
theorem heard_ok {tab : Str → Option (Nat × (List D → M D))} {rows : List XRow} {x : Str} {n : Nat} {m : List D → M D} {ds : List D} {p : Pool} {e : End} {r : D} (ht : tab x = some (n, m)) (hl : ds.length = n) (h1 : 1 ≤ n) (h5 : n ≤ 5) (hm : Ends (m ds p) p e) (hr : hear rows e = some r) :
    runB (bHeard tab rows) 4 [.fn x, .tup ds] p = .ok r p := by
  have f : fnO tab (.fn x) = some (n, m) := ht
  subst hl
  cases e with
  | told =>
    obtain ⟨v, hv⟩ := hm
    cases hr
    match ds, h1, h5 with
    | [a], _, _ => simp [bHeard, runB_ap, f, hv, lstO_of]
    | [a, b], _, _ => simp [bHeard, runB_ap, f, hv, lstO_of]
    | [a, b, c], _, _ => simp [bHeard, runB_ap, f, hv, lstO_of, ixD_t, atI, ixN]
    | [a, b, c, d], _, _ => simp [bHeard, runB_ap, f, hv, lstO_of, ixD_t, atI, ixN]
    | [a, b, c, d, e], _, _ => simp [bHeard, runB_ap, f, hv, lstO_of, ixD_t, atI, ixN]
    | a :: b :: c :: d :: e :: g :: t, _, h5 => simp at h5
  | err c0 d0 =>
    have hv : m ds p = .ex c0 d0 p := hm
    have hr : hmOf rows c0 d0 = some r := hr
    match ds, h1, h5 with
    | [a], _, _ => simp [bHeard, runB_ap, f, hv, hr]
    | [a, b], _, _ => simp [bHeard, runB_ap, f, hv, hr]
    | [a, b, c], _, _ => simp [bHeard, runB_ap, f, hv, hr, ixD_t, atI, ixN]
    | [a, b, c, d], _, _ => simp [bHeard, runB_ap, f, hv, hr, ixD_t, atI, ixN]
    | [a, b, c, d, e], _, _ => simp [bHeard, runB_ap, f, hv, hr, ixD_t, atI, ixN]
    | a :: b :: c :: d :: e :: g :: t, _, h5 => simp at h5
/-! ### slices -/
theorem cut_dn {α : Type} (xs : List α) (n : Nat) : cut xs (some (n : Int)) none = xs.drop n := by
  unfold cut
  have h1 : HT.sIx xs.length xs.length none = xs.length := rfl
  have h0 : HT.sIx xs.length 0 (some (n : Int)) = min n xs.length := by
    unfold HT.sIx
    simp
    try omega
  rw [h0, h1]
  by_cases h : n ≤ xs.length
  · rw [Nat.min_eq_left h, List.take_of_length_le (by rw [List.length_drop]; omega)]
  · rw [Nat.min_eq_right (by omega), List.drop_length, List.drop_of_length_le (by omega)]
    simp
/-- some of the items, as the draws have it -/
theorem lcM_sub {t : Pat} {fb : DEnv → M Bool} {f : DEnv → M D} {ε : DEnv} (I : Pool → Prop) : ∀ (ds : List D), (∀ d ∈ ds, ∀ p, I p → ∃ ε1 b p', t d ε = some ε1 ∧ fb ε1 p = .ok b p' ∧ I p' ∧ f ε1 p' = .ok d p') → ∀ p, I p → ∃ ys p', lcM t fb f ds ε p = .ok ys p' ∧ (∀ y ∈ ys, y ∈ ds) ∧ I p'
  | [], _, p, hp => ⟨[], p, rfl, (fun _ h => by cases h), hp⟩
  | d :: ds, h, p, hp => by
    obtain ⟨ε1, b, p', h1, h2, h3, h4⟩ := h d List.mem_cons_self p hp
    obtain ⟨ys, p'', h5, h6, h7⟩ := lcM_sub I ds (fun d hd => h d (List.mem_cons_of_mem _ hd)) p' h3
    cases b with
    | true => exact ⟨d :: ys, p'', by rw [lcM_cons, h1, ofO_some, ok_thn, h2, ok_thn, if_pos rfl, h4, ok_thn, h5, ok_thn], fun y hy => (List.mem_cons.mp hy).elim (fun e => by rw [e]; exact List.mem_cons_self) fun z => List.mem_cons_of_mem _ (h6 y z), h7⟩
    | false => exact ⟨ys, p'', by rw [lcM_cons, h1, ofO_some, ok_thn, h2, ok_thn, if_neg (by decide), h5], fun y hy => List.mem_cons_of_mem _ (h6 y hy), h7⟩
/-- a wrong thing, the word of its error, what it keeps -/
structure W3 where
  t : D
  w : Str
  k : D
def W3.d (x : W3) : D := .lst [x.t, .str x.w, x.k]
def someD (s : List (List W3)) : D := .lst (s.map fun l => .lst (l.map W3.d))
theorem refused_ok {heard draw pick : List D → M D} (hdraw : ∀ p, PI p → ∀ n : Int, 0 < n → n < 1000000000 → ∃ k p', draw [.pool, .int n] p = .ok (.int k) p' ∧ 0 ≤ k ∧ k < n ∧ PI p')
    (hpick : ∀ p, PI p → ∀ l : List D, l ≠ [] → l.length < 1000 → ∃ x p', pick [.pool, .lst l] p = .ok x p' ∧ x ∈ l ∧ PI p')
    (c : D) (as : List D) (s : List (List W3)) (hl : s.length = as.length) (h5 : as.length ≤ 5) (hne : ∀ l ∈ s, l ≠ [] ∧ l.length < 1000) (hR : ∀ l ∈ s, ∀ e ∈ l, ∃ x, reprX [e.k] = some (.str x))
    (h1 : ∀ k l, s[k]? = some l → ∀ e ∈ l, ∀ p, heard [c, .tup (as.take k ++ [e.t] ++ as.drop (k + 1))] p = .ok (.lst [.str e.w, e.k]) p)
    (h2 : ∀ k l l', s[k]? = some l → s[k + 1]? = some l' → ∀ e ∈ l, ∀ e' ∈ l', ∀ p, heard [c, .tup (as.take k ++ [e.t, e'.t] ++ as.drop (k + 2))] p = .ok (.lst [.str e.w, e.k]) p)
    (h3 : ∀ p, heard [c, .tup as] p = .ok (.lst [.str "told", .non]) p) {p : Pool} (hp : PI p) : ∃ p', runB (bRef heard draw pick) 12 [.pool, c, .tup as, someD s] p = .ok (.bl true) p' ∧ PI p' := by
  have atS : ∀ {k : Nat}, k < as.length → ∃ l, s[k]? = some l ∧ l ∈ s ∧ ixD (someD s) (.int (k : Int)) = some (.lst (l.map W3.d)) := fun {k} hk => by
    have hk2 : k < s.length := by omega
    refine ⟨s[k], List.getElem?_eq_getElem hk2, List.getElem_mem hk2, ?_⟩
    obtain ⟨x, e1, e2⟩ := atI_nat (l := s.map fun l => D.lst (l.map W3.d)) (i := (k : Int)) (by omega) (by rw [List.length_map]; omega)
    show atI _ _ = _
    rw [e1]
    simp only [Int.toNat_natCast, List.getElem?_map, List.getElem?_eq_getElem hk2, Option.map_some] at e2
    exact e2.symm
  have lA : as.length ≤ 10000 := by omega
  -- one by one
  have loop1 : ∀ p, PI p → ∃ ε p', loopF (pN false 4) (lRef4 heard draw) [5, 6, 7] (rngL 0 as.length) [some .pool, some c, some (.tup as), some (someD s), none, none, none, none, none, none, none, none] p = .ok (.nx ε) p' ∧ ∃ v4 v8 : Option D, ε = [some .pool, some c, some (.tup as), some (someD s), v4, none, none, none, v8, none, none, none] ∧ PI p' := by
    refine fun p hp => loopF_inv (fun ε p => ∃ v4 v8 : Option D, ε = [some .pool, some c, some (.tup as), some (someD s), v4, none, none, none, v8, none, none, none] ∧ PI p) (rngL 0 as.length) ?_ _ p ⟨none, none, rfl, hp⟩
    rintro d hd ε p ⟨v4, v8, rfl, hp⟩
    obtain ⟨i, rfl, i0, i1⟩ := rngL_mem hd
    obtain ⟨k, rfl⟩ : ∃ k : Nat, i = k := ⟨i.toNat, by omega⟩
    obtain ⟨l, hlk, hls, hix⟩ := atS (k := k) (by omega)
    obtain ⟨hn0, hn1⟩ := hne l hls
    have z : ((k : Int) + 1) = ((k + 1 : Nat) : Int) := by omega
    obtain ⟨ys, p1, e1, e2, e3⟩ := lcM_sub (t := pN false 11) (fb := cRef draw) (f := dVar 11) (ε := [some .pool, some c, some (.tup as), some (someD s), some (.int k), none, none, none, v8, none, none, none]) PI (l.map W3.d) (fun d hd p hp => by
      obtain ⟨j, p', h1, h2, h3, h4⟩ := hdraw p hp 2 (by decide) (by decide)
      exact ⟨_, decide (j = 0), p', rfl, by simp [cRef, h1], h4, rfl⟩) p hp
    obtain ⟨ε', p2, e4, v8', rfl, e5⟩ := loopF_inv (t := pX [(pN false 5), (pN false 6), (pN false 7)]) (b := lRef3 heard) (ks := [5, 6, 7]) (fun ε p => ∃ v8 : Option D, ε = [some .pool, some c, some (.tup as), some (someD s), some (.int k), none, none, none, v8, none, none, none] ∧ PI p) ys (fun d hd ε p ⟨v8, hε, hp⟩ => by
      subst hε
      obtain ⟨e, he, rfl⟩ := List.mem_map.mp (e2 d hd)
      obtain ⟨x, hx⟩ := hR l hls e he
      have hh := h1 k l hlk e he p
      refine ⟨[some .pool, some c, some (.tup as), some (someD s), some (.int k), some e.t, some (.str e.w), some e.k, v8, none, none, none], [some .pool, some c, some (.tup as), some (someD s), some (.int k), some e.t, some (.str e.w), some e.k, some (.lst [.str e.w, e.k]), none, none, none], p, ?_, ?_, some (.lst [.str e.w, e.k]), rfl, hp⟩
      · rfl
      · have c1 : slD none (some (k : Int)) (.tup as) = some (.tup (as.take k)) := by rw [slD_t, cut_up]
        have c2 : slD (some ((k : Int) + 1)) none (.tup as) = some (.tup (as.drop (k + 1))) := by rw [z, slD_t, cut_dn]
        have a1 : addD (.tup (as.take k)) (.tup [e.t]) = some (.tup (as.take k ++ [e.t])) := by
          rw [addD_t, if_pos (by simp; omega)]
        have a2 : addD (.tup (as.take k ++ [e.t])) (.tup (as.drop (k + 1))) = some (.tup (as.take k ++ [e.t] ++ as.drop (k + 1))) := by
          rw [addD_t, if_pos (by simp; omega)]
        rw [List.append_assoc] at a2 hh
        simp only [List.cons_append, List.nil_append] at a2 hh
        simp [-slD_t, -addD_t, lRef3, c1, c2, a1, a2, hh, hx, tupO_of]) _ p1 ⟨v8, rfl, e3⟩
    refine ⟨[some .pool, some c, some (.tup as), some (someD s), some (.int k), none, none, none, v8, none, none, none], [some .pool, some c, some (.tup as), some (someD s), some (.int k), none, none, none, v8', none, none, none], p2, rfl, ?_, some (.int k), v8', rfl, e5⟩
    simp [lRef4, hix, show l.length ≤ 10000 by omega, e1, e4]
  -- two by two
  have loop2 : ∀ (v4 v8 : Option D) (p : Pool), PI p → ∃ ε p', loopF (pN false 4) (lRef5 heard pick) [9, 10] (rngL 0 (as.length - 1)) [some .pool, some c, some (.tup as), some (someD s), v4, none, none, none, v8, none, none, none] p = .ok (.nx ε) p' ∧ ∃ v4 v8 : Option D, ε = [some .pool, some c, some (.tup as), some (someD s), v4, none, none, none, v8, none, none, none] ∧ PI p' := by
    refine fun v4 v8 p hp => loopF_inv (fun ε p => ∃ v4 v8 : Option D, ε = [some .pool, some c, some (.tup as), some (someD s), v4, none, none, none, v8, none, none, none] ∧ PI p) (rngL 0 (as.length - 1)) ?_ _ p ⟨v4, v8, rfl, hp⟩
    rintro d hd ε p ⟨v4, v8, rfl, hp⟩
    obtain ⟨i, rfl, i0, i1⟩ := rngL_mem hd
    obtain ⟨k, rfl⟩ : ∃ k : Nat, i = k := ⟨i.toNat, by omega⟩
    have z : ((k : Int) + 1) = ((k + 1 : Nat) : Int) := by omega
    have z2 : ((k : Int) + 2) = ((k + 2 : Nat) : Int) := by omega
    obtain ⟨l, hlk, hls, hix⟩ := atS (k := k) (by omega)
    obtain ⟨l', hlk', hls', hix'⟩ := atS (k := k + 1) (by omega)
    obtain ⟨hn0, hn1⟩ := hne l hls
    obtain ⟨hn0', hn1'⟩ := hne l' hls'
    obtain ⟨x, p1, x1, x2, x3⟩ := hpick p hp (l.map W3.d) (by simpa using hn0) (by simpa using hn1)
    obtain ⟨y, p2, y1, y2, y3⟩ := hpick p1 x3 (l'.map W3.d) (by simpa using hn0') (by simpa using hn1')
    obtain ⟨e, he, rfl⟩ := List.mem_map.mp x2
    obtain ⟨e', he', rfl⟩ := List.mem_map.mp y2
    obtain ⟨t, ht⟩ := hR l hls e he
    have hh := h2 k l l' hlk hlk' e he e' he' p2
    rw [← z] at hix'
    have c1 : slD none (some (k : Int)) (.tup as) = some (.tup (as.take k)) := by rw [slD_t, cut_up]
    have c2 : slD (some ((k : Int) + 2)) none (.tup as) = some (.tup (as.drop (k + 2))) := by rw [z2, slD_t, cut_dn]
    have a1 : addD (.tup (as.take k)) (.tup [e.t, e'.t]) = some (.tup (as.take k ++ [e.t, e'.t])) := by
      rw [addD_t, if_pos (by simp; omega)]
    have a2 : addD (.tup (as.take k ++ [e.t, e'.t])) (.tup (as.drop (k + 2))) = some (.tup (as.take k ++ [e.t, e'.t] ++ as.drop (k + 2))) := by
      rw [addD_t, if_pos (by simp; omega)]
    refine ⟨[some .pool, some c, some (.tup as), some (someD s), some (.int k), none, none, none, v8, none, none, none], [some .pool, some c, some (.tup as), some (someD s), some (.int k), none, none, none, some (.lst [.str e.w, e.k]), some e.d, some e'.d, none], p2, rfl, ?_, some (.int k), some (.lst [.str e.w, e.k]), rfl, y3⟩
    have d0 : ixD e.d (.int 0) = some e.t := ixL0 _ _
    have d1 : ixD e.d (.int 1) = some (.str e.w) := ixL1 _ _ _
    have d2' : ixD e.d (.int 2) = some e.k := ixL2 _ _ _ _
    have d0' : ixD e'.d (.int 0) = some e'.t := ixL0 _ _
    rw [List.append_assoc] at a2 hh
    simp only [List.cons_append, List.nil_append] at a2 hh
    simp [-slD_t, -addD_t, lRef5, hix, hix', x1, y1, c1, c2, a1, a2, hh, ht, tupO_of, d0, d1, d2', d0']
  obtain ⟨ε1, p1, e1, v4, v8, rfl, hp1⟩ := loop1 p hp
  obtain ⟨ε2, p2, e2, v4', v8', rfl, hp2⟩ := loop2 v4 v8 p1 hp1
  refine ⟨p2, ?_, hp2⟩
  have r1 : rng1 [.int (as.length : Int)] = some (rngL 0 as.length) := by rw [rng1_i _ ⟨by omega, by omega⟩]; simp
  have tn : ((as.length : Int) - 1).toNat = as.length - 1 := by omega
  have r2 : rng1 [.int ((as.length : Int) - 1)] = some (rngL 0 (as.length - 1)) := by rw [rng1_i _ ⟨by omega, by omega⟩, tn]
  have i1 : ∀ q, iO rng1 (dCons (dA lenD (dCons (dVar 2) dNil)) dNil) [some .pool, some c, some (.tup as), some (someD s), none, none, none, none, none, none, none, none] q = .ok (rngL 0 as.length) q := fun q => by
    simp only [iO_ap, dCons_ap, dNil_ap, dA_ap, dVar_ap, List.getElem?_cons_succ, List.getElem?_cons_zero, Option.bind_some, id, ofO_some, ok_thn, lenD_t, r1]
  have i2 : ∀ q, iO rng1 (dCons (d2 subD (dA lenD (dCons (dVar 2) dNil)) (dC (.int 1))) dNil) [some .pool, some c, some (.tup as), some (someD s), v4, none, none, none, v8, none, none, none] q = .ok (rngL 0 (as.length - 1)) q := fun q => by
    simp only [iO_ap, dCons_ap, dNil_ap, dA_ap, d2_ap, dC_ap, dVar_ap, List.getElem?_cons_succ, List.getElem?_cons_zero, Option.bind_some, id, ofO_some, ok_thn, lenD_t, subD_i, r2]
  have f3 : sRet (d2 (eqD false) (d2 ixD (dCall 2 heard (dCons (dVar 1) (dCons (dVar 2) dNil))) (dC (.int 0))) (dC (.str "told"))) [some .pool, some c, some (.tup as), some (someD s), v4', none, none, none, v8', none, none, none] p2 = .ok (.rt (.bl true)) p2 := by
    simp [h3]
  rw [runB_ap]
  show (bRef heard draw pick [some .pool, some c, some (.tup as), some (someD s), none, none, none, none, none, none, none, none] p).run = _
  unfold bRef
  rw [sSeq_ap, sFor_ap, i1, ok_sx, e1, nxt_nx, sSeq_ap, sFor_ap, i2, ok_sx, e2, nxt_nx, f3, run_rt]
end RF

end
section
namespace RF
open PySem PySem.Spec L2 DL MW
/-- can be shown -/
def isE : D → Bool
  | .dct [] [] => true
  | _ => false
def okRep (t : D) : Bool := (sh 20 t && decide (wt t ≤ 1000000)) || isE t
theorem rep_of {t : D} (h : okRep t = true) : ∃ x, reprX [t] = some (.str x) := by
  unfold okRep at h
  rw [Bool.or_eq_true, Bool.and_eq_true] at h
  rcases h with ⟨h1, h2⟩ | h
  · refine ⟨(toPy t).shown, ?_⟩
    have e := repr_of h1 (of_decide_eq_true h2)
    unfold reprX
    split
    · rename_i z
      simp at z
      rw [z] at h1
      simp [sh] at h1
    · exact e
  · unfold isE at h
    split at h
    · exact ⟨"{}", rfl⟩
    · cases h
/-- wrong things of one word, each kept as it is -/
def nm (ts : List D) (w : Str) : List W3 := ts.map fun t => ⟨t, w, t⟩
def bNamed : DEnv → M D := (dLc (iSeq (dVar 0)) [2] (pN false 2) dYes (dA lstO (dCons (dVar 2) (dCons (dVar 1) (dCons (dVar 2) dNil)))))
theorem named_ok (ts : List D) (w : Str) (hl : ts.length ≤ 10000) (p : Pool) : runV [] bNamed 3 [.lst ts, .str w] p = .ok (.lst ((nm ts w).map W3.d)) p := by
  have l := lcM_all (t := pN false 2) (f := dA lstO (dCons (dVar 2) (dCons (dVar 1) (dCons (dVar 2) dNil)))) (ε := [some (.lst ts), some (.str w), none]) (p := p) (fun t => .lst [t, .str w, t]) ts fun d hd => ⟨[some (.lst ts), some (.str w), some d], rfl, by simp [lstO_of]⟩
  have e : (nm ts w).map W3.d = ts.map fun t => .lst [t, .str w, t] := by
    unfold nm
    rw [List.map_map]
    rfl
  rw [e]
  simp [runV_ap, bNamed, hl, l]
theorem nm_mem {ts : List D} {w : Str} {e : W3} (h : e ∈ nm ts w) : e.t ∈ ts ∧ e.w = w ∧ e.k = e.t := by
  obtain ⟨t, ht, rfl⟩ := List.mem_map.mp h
  exact ⟨ht, rfl, rfl⟩
/-- things that are no fractions -/
def noFr : List D := [.non, .tup [], .int 0, .int 5, .str "1/2", .bl true, .tup [.int 1], .tup [.int 1, .int 2, .int 3], .lst [.int 1, .int 2], .tup [.int 2, .int 4], .tup [.int 1, .int 0], .tup [.int 1, .int (-2)], .tup [.int 0, .int 2], .tup [.bl true, .int 1], .tup [.int 1, .bl true], .tup [.non, .int 1], .tup [.str "1", .int 1], .dct [] []]
theorem noFr_ok : ∀ t ∈ noFr, kn2 t = true ∧ isF t = false ∧ fair t = true ∧ okRep t = true := by
  have h : (noFr.all fun t => kn2 t && !isF t && fair t && okRep t) = true := by decide +kernel
  intro t ht
  have := List.all_eq_true.mp h t ht
  simp only [Bool.and_eq_true, Bool.not_eq_true'] at this
  exact ⟨this.1.1.1, this.1.1.2, this.1.2, this.2⟩
def rNoFr : DEnv → M D := (dA lstO (dCons (dC .non) (dCons (dA tupO dNil) (dCons (dC (.int 0)) (dCons (dC (.int 5)) (dCons (dC (.str "1/2")) (dCons (dC (.bl true)) (dCons (dA tupO (dCons (dC (.int 1)) dNil)) (dCons (dA tupO (dCons (dC (.int 1)) (dCons (dC (.int 2)) (dCons (dC (.int 3)) dNil)))) (dCons (dA lstO (dCons (dC (.int 1)) (dCons (dC (.int 2)) dNil))) (dCons (dA tupO (dCons (dC (.int 2)) (dCons (dC (.int 4)) dNil))) (dCons (dA tupO (dCons (dC (.int 1)) (dCons (dC (.int 0)) dNil))) (dCons (dA tupO (dCons (dC (.int 1)) (dCons (d1 negD (dC (.int 2))) dNil))) (dCons (dA tupO (dCons (dC (.int 0)) (dCons (dC (.int 2)) dNil))) (dCons (dA tupO (dCons (dC (.bl true)) (dCons (dC (.int 1)) dNil))) (dCons (dA tupO (dCons (dC (.int 1)) (dCons (dC (.bl true)) dNil))) (dCons (dA tupO (dCons (dC .non) (dCons (dC (.int 1)) dNil))) (dCons (dA tupO (dCons (dC (.str "1")) (dCons (dC (.int 1)) dNil))) (dCons (dC (.dct [] [])) dNil)))))))))))))))))))
theorem noFr_run (p : Pool) : runV [] rNoFr 0 [] p = .ok (.lst noFr) p := by
  simp [runV_ap, rNoFr, tupO_of, lstO_of, noFr]
end RF

end
section
namespace K01
open PySem PySem.Spec L2 DL MW
theorem draw_ok {p : Pool} (h : PI p) (n : Int) (hn : 0 < n) (hn2 : n < 1000000000) : ∃ k p', m__law_draw [.pool, .int n] p = .ok (.int k) p' ∧ 0 ≤ k ∧ k < n ∧ PI p' := draw0 (by decide) h n hn hn2
theorem pool_ok (ns : List Int) (turn : Int) (h0 : 0 ≤ turn) (p : Pool) : ∃ a b c : Int, m__law_pool [.rol (ns.map D.int), .int turn] p = .ok (.lst [.int a, .int b, .int c]) p := pool0 (by decide) ns turn h0 p
theorem pick_ok {p : Pool} (h : PI p) (l : List D) (hl : l ≠ []) (hl2 : l.length < 1000) : ∃ x p', m__law_pick [.pool, .lst l] p = .ok x p' ∧ x ∈ l ∧ PI p' := by
  have : 0 < l.length := List.length_pos_iff.mpr hl
  obtain ⟨k, p', e, h1, h2, h3⟩ := draw_ok h l.length (by omega) (by omega)
  obtain ⟨x, e1, e2⟩ := atI_nat h1 h2
  refine ⟨x, p', ?_, List.mem_of_getElem? e2, h3⟩
  simp [m__law_pick, b__law_pick, runB_ap, e, ixD_l, e1]
theorem named (ts : List D) (w : Str) (hl : ts.length ≤ 10000) (p : Pool) : m__law_named [.lst ts, .str w] p = .ok (.lst ((RF.nm ts w).map RF.W3.d)) p := RF.named_ok ts w hl p
theorem nofr (p : Pool) : m__law_no_fractions [] p = .ok (.lst RF.noFr) p := RF.noFr_run p
/-! ### the functions on anything -/
def ex1 (d : D) (p : Pool) : Out D := .ex "InvalidFraction" (some ("given", d)) p
theorem check_ok {d : D} (h : kn2 d = true) (p : Pool) : m_check_fraction [d] p = if isF d = true then .ok .non p else ex1 d p := by
  have e := isfrac_ok h p
  cases c : isF d <;> simp [m_check_fraction, b_check_fraction, runB_ap, e, c, ex1]
theorem two_bad1 {a b : D} (ha : kn2 a = true) (c : isF a = false) (p : Pool) : m_check_two [a, b] p = ex1 a p := by
  have e := check_ok ha p
  rw [c] at e
  simp [m_check_two, b_check_two, runB_ap, e, ex1]
theorem two_bad2 {a b : D} (ha : kn2 a = true) (hb : kn2 b = true) (c : isF a = true) (c' : isF b = false) (p : Pool) : m_check_two [a, b] p = ex1 b p := by
  have e := check_ok ha p
  have e' := check_ok hb p
  rw [c] at e
  rw [c'] at e'
  simp [m_check_two, b_check_two, runB_ap, e, e', ex1]
theorem check2 (a b : Rat) (p : Pool) : m_check_two [frD a, frD b] p = .ok .non p := by
  have e := check_ok (kn2_frD a) p
  have e' := check_ok (kn2_frD b) p
  rw [isF_frD] at e e'
  simp [m_check_two, b_check_two, runB_ap, e, e']
structure Two (m : List D → M D) : Prop where
  bad1 : ∀ a b p, kn2 a = true → isF a = false → m [a, b] p = ex1 a p
  bad2 : ∀ a b p, kn2 a = true → kn2 b = true → isF a = true → isF b = false → m [a, b] p = ex1 b p
theorem two_plus : Two m_plus := ⟨fun a b p h c => by simp [m_plus, b_plus, runB_ap, two_bad1 h c p, ex1], fun a b p h h' c c' => by simp [m_plus, b_plus, runB_ap, two_bad2 h h' c c' p, ex1]⟩
theorem two_less : Two m_less := ⟨fun a b p h c => by simp [m_less, b_less, runB_ap, two_bad1 h c p, ex1], fun a b p h h' c c' => by simp [m_less, b_less, runB_ap, two_bad2 h h' c c' p, ex1]⟩
theorem two_times : Two m_times := ⟨fun a b p h c => by simp [m_times, b_times, runB_ap, two_bad1 h c p, ex1], fun a b p h h' c c' => by simp [m_times, b_times, runB_ap, two_bad2 h h' c c' p, ex1]⟩
theorem two_over : Two m_over := ⟨fun a b p h c => by simp [m_over, b_over, runB_ap, two_bad1 h c p, ex1], fun a b p h h' c c' => by simp [m_over, b_over, runB_ap, two_bad2 h h' c c' p, ex1]⟩
theorem two_below : Two m_is_below := ⟨fun a b p h c => by simp [m_is_below, b_is_below, runB_ap, two_bad1 h c p, ex1], fun a b p h h' c c' => by simp [m_is_below, b_is_below, runB_ap, two_bad2 h h' c c' p, ex1]⟩
section
variable {a b : Rat} (ha : szR 20 a) (hb : szR 20 b)
include ha hb
theorem t_plus (p : Pool) : ∃ v, m_plus [frD a, frD b] p = .ok v p := by
  have hn : 20 ≤ 4000 := by decide
  exact ⟨_, by simp [m_plus, b_plus, runB_ap, check2, mulD_sz hn ha.1 (den_abs hb), mulD_sz hn hb.1 (den_abs ha), mulD_sz hn (den_abs ha) (den_abs hb), plainof_ok (Int.mul_ne_zero (den_ne a) (den_ne b)) (bot_ok ha hb hn)]; rfl⟩
theorem t_less (p : Pool) : ∃ v, m_less [frD a, frD b] p = .ok v p := by
  have hn : 20 ≤ 4000 := by decide
  exact ⟨_, by simp [m_less, b_less, runB_ap, check2, mulD_sz hn ha.1 (den_abs hb), mulD_sz hn hb.1 (den_abs ha), mulD_sz hn (den_abs ha) (den_abs hb), plainof_ok (Int.mul_ne_zero (den_ne a) (den_ne b)) (bot_ok ha hb hn)]; rfl⟩
theorem t_times (p : Pool) : ∃ v, m_times [frD a, frD b] p = .ok v p := by
  have hn : 20 ≤ 4000 := by decide
  exact ⟨_, by simp [m_times, b_times, runB_ap, check2, mulD_sz hn ha.1 hb.1, mulD_sz hn (den_abs ha) (den_abs hb), plainof_ok (Int.mul_ne_zero (den_ne a) (den_ne b)) (bot_ok ha hb hn)]; rfl⟩
theorem t_over (h0 : b ≠ 0) (p : Pool) : ∃ v, m_over [frD a, frD b] p = .ok v p := by
  have hn : 20 ≤ 4000 := by decide
  have z : eqv (frD b) (.tup [.int 0, .int 1]) = false := by rw [← frD_zero, eqv_frD]; simpa using h0
  exact ⟨_, by simp [m_over, b_over, runB_ap, check2, z, mulD_sz hn ha.1 (den_abs hb), mulD_sz hn (den_abs ha) hb.1, plainof_ok (Int.mul_ne_zero (den_ne a) (num_ne h0)) (bot_ok2 ha hb hn)]; rfl⟩
theorem t_below (p : Pool) : ∃ v, m_is_below [frD a, frD b] p = .ok v p := by
  have hn : 20 ≤ 4000 := by decide
  exact ⟨_, by simp [m_is_below, b_is_below, runB_ap, check2, mulD_sz hn ha.1 (den_abs hb), mulD_sz hn hb.1 (den_abs ha)]; rfl⟩
end
theorem over_nought (a : Rat) (p : Pool) : m_over [frD a, .tup [.int 0, .int 1]] p = ex1 (.tup [.int 0, .int 1]) p := by
  have c := check2 a 0 p
  rw [frD_zero] at c
  simp [m_over, b_over, runB_ap, c, ex1]
theorem plain_bad1 {a b : D} (ha : kn a = true) (c : isI a = false) (p : Pool) : m_plain [a, b] p = ex1 a p := by
  have e := whole_ok ha p
  rw [c] at e
  simp [m_plain, b_plain, runB_ap, e, ex1]
theorem plain_bad2 {b : D} (a : Int) (hb : kn b = true) (c : isI b = false) (p : Pool) : m_plain [.int a, b] p = ex1 b p := by
  have e' := whole_int a p
  have e := whole_ok hb p
  rw [c] at e
  simp [m_plain, b_plain, runB_ap, e, e', ex1]
theorem plain_nought (a : Int) (p : Pool) : m_plain [.int a, .int 0] p = ex1 (.int 0) p := by
  have e' := whole_int a p
  have e := whole_int 0 p
  simp [m_plain, b_plain, runB_ap, e, e', ex1]
theorem t_plain (a b : Int) (hb : b ≠ 0) (hs : b.natAbs < 1000) (p : Pool) : ∃ v, m_plain [.int a, .int b] p = .ok v p := by
  have e' := whole_int a p
  have e := whole_int b p
  have pl := plainof_ok (a := a) hb (Nat.lt_of_lt_of_le hs (Nat.le_trans (show 1000 ≤ 2 ^ 10 by decide) (Nat.pow_le_pow_right (by decide) (by decide)))) p
  exact ⟨_, by simp [m_plain, b_plain, runB_ap, e, e', hb, pl]; rfl⟩
/-! ### what is heard -/
theorem hm (d : D) : hmOf rows__law_heard "InvalidFraction" (some ("given", d)) = some (.lst [.str "fraction", d]) := rfl
theorem hear_ex {x : Str} {n : Nat} {m : List D → M D} {ds : List D} {d : D} {p : Pool} (ht : tab_law x = some (n, m)) (hl : ds.length = n) (h1 : 1 ≤ n) (h5 : n ≤ 5) (h : m ds p = ex1 d p) : m__law_heard [.fn x, .tup ds] p = .ok (.lst [.str "fraction", d]) p :=
  RF.heard_ok (rows := rows__law_heard) (e := .err "InvalidFraction" (some ("given", d))) ht hl h1 h5 h (hm d)
theorem hear_told {x : Str} {n : Nat} {m : List D → M D} {ds : List D} {p : Pool} (ht : tab_law x = some (n, m)) (hl : ds.length = n) (h1 : 1 ≤ n) (h5 : n ≤ 5) (h : ∃ v, m ds p = .ok v p) : m__law_heard [.fn x, .tup ds] p = .ok (.lst [.str "told", .non]) p :=
  RF.heard_ok (rows := rows__law_heard) (e := .told) ht hl h1 h5 h rfl
theorem refd {p : Pool} (hp : PI p) (c : D) (as : List D) (s : List (List RF.W3)) (hl : s.length = as.length) (h5 : as.length ≤ 5) (hne : ∀ l ∈ s, l ≠ [] ∧ l.length < 1000) (hR : ∀ l ∈ s, ∀ e ∈ l, ∃ x, reprX [e.k] = some (.str x))
    (h1 : ∀ k l, s[k]? = some l → ∀ e ∈ l, ∀ p, m__law_heard [c, .tup (as.take k ++ [e.t] ++ as.drop (k + 1))] p = .ok (.lst [.str e.w, e.k]) p)
    (h2 : ∀ k l l', s[k]? = some l → s[k + 1]? = some l' → ∀ e ∈ l, ∀ e' ∈ l', ∀ p, m__law_heard [c, .tup (as.take k ++ [e.t, e'.t] ++ as.drop (k + 2))] p = .ok (.lst [.str e.w, e.k]) p)
    (h3 : ∀ p, m__law_heard [c, .tup as] p = .ok (.lst [.str "told", .non]) p) : ∃ p', m__law_refused_right [.pool, c, .tup as, RF.someD s] p = .ok (.bl true) p' ∧ PI p' :=
  RF.refused_ok (heard := m__law_heard) (draw := m__law_draw) (pick := m__law_pick) (fun p hp n a b => draw_ok hp n a b) (fun p hp l a b => pick_ok hp l a b) c as s hl h5 hne hR h1 h2 h3 hp
abbrev off : List RF.W3 := RF.nm RF.noFr "fraction"
theorem ref_two {x : Str} {m : List D → M D} (ht : tab_law x = some (2, m)) (h : Two m) {a b : Rat} (t : ∀ p, ∃ v, m [frD a, frD b] p = .ok v p) {p : Pool} (hp : PI p) : ∃ p', m__law_refused_right [.pool, .fn x, .tup [frD a, frD b], .lst [.lst (off.map RF.W3.d), .lst (off.map RF.W3.d)]] p = .ok (.bl true) p' ∧ PI p' := by
  have mem : ∀ e ∈ off, kn2 e.t = true ∧ isF e.t = false ∧ RF.okRep e.k = true ∧ e.w = "fraction" ∧ e.k = e.t := fun e he => by
    obtain ⟨h1, h2, h3⟩ := RF.nm_mem he
    obtain ⟨a1, a2, a3, a4⟩ := RF.noFr_ok _ h1
    exact ⟨a1, a2, by rw [h3]; exact a4, h2, h3⟩
  refine refd hp (.fn x) [frD a, frD b] [off, off] rfl (by show 2 ≤ 5; decide) ?_ ?_ ?_ ?_ ?_
  · intro l hl
    simp only [List.mem_cons, List.not_mem_nil, or_false, or_self] at hl
    subst hl
    exact ⟨by decide, by decide⟩
  · intro l hl e he
    simp only [List.mem_cons, List.not_mem_nil, or_false, or_self] at hl
    subst hl
    exact RF.rep_of (mem e he).2.2.1
  · intro k l hl e he p
    match k with
    | 0 =>
      cases hl
      obtain ⟨m1, m2, m3, m4, m5⟩ := mem e he
      rw [m4, m5]
      exact hear_ex ht rfl (by decide) (by decide) (h.bad1 _ _ p m1 m2)
    | 1 =>
      cases hl
      obtain ⟨m1, m2, m3, m4, m5⟩ := mem e he
      rw [m4, m5]
      exact hear_ex ht rfl (by decide) (by decide) (h.bad2 _ _ p (kn2_frD a) m1 (isF_frD a) m2)
    | k + 2 => cases hl
  · intro k l l' hl hl' e he e' he' p
    match k with
    | 0 =>
      cases hl
      obtain ⟨m1, m2, m3, m4, m5⟩ := mem e he
      rw [m4, m5]
      exact hear_ex ht rfl (by decide) (by decide) (h.bad1 _ _ p m1 m2)
    | k + 1 => cases hl'
  · intro p
    exact hear_told ht rfl (by decide) (by decide) (t p)
def wr : List D := [.non, .tup [], .str "1", .bl true, .bl false, .tup [.int 1, .int 1], .lst [.int 1], .dct [] []]
theorem wr_ok : ∀ t ∈ wr, kn t = true ∧ isI t = false ∧ RF.okRep t = true := by
  have h : (wr.all fun t => kn t && !isI t && RF.okRep t) = true := by decide +kernel
  intro t ht
  have := List.all_eq_true.mp h t ht
  simp only [Bool.and_eq_true, Bool.not_eq_true'] at this
  exact ⟨this.1.1, this.1.2, this.2⟩
abbrev wrong : List RF.W3 := RF.nm wr "fraction"
theorem ref_plain (a b : Int) (hb : b ≠ 0) (hs : b.natAbs < 1000) {p : Pool} (hp : PI p) : ∃ p', m__law_refused_right [.pool, .fn "plain", .tup [.int a, .int b], .lst [.lst (wrong.map RF.W3.d), .lst ((wrong ++ RF.nm [.int 0] "fraction").map RF.W3.d)]] p = .ok (.bl true) p' ∧ PI p' := by
  have mem : ∀ e ∈ wrong, kn e.t = true ∧ isI e.t = false ∧ RF.okRep e.k = true ∧ e.w = "fraction" ∧ e.k = e.t := fun e he => by
    obtain ⟨h1, h2, h3⟩ := RF.nm_mem he
    obtain ⟨a1, a2, a3⟩ := wr_ok _ h1
    exact ⟨a1, a2, by rw [h3]; exact a3, h2, h3⟩
  have ht : tab_law "plain" = some (2, m_plain) := rfl
  refine refd hp (.fn "plain") [.int a, .int b] [wrong, wrong ++ RF.nm [.int 0] "fraction"] rfl (by show 2 ≤ 5; decide) ?_ ?_ ?_ ?_ ?_
  · intro l hl
    simp only [List.mem_cons, List.not_mem_nil, or_false] at hl
    rcases hl with rfl | rfl <;> exact ⟨by decide, by decide⟩
  · intro l hl e he
    simp only [List.mem_cons, List.not_mem_nil, or_false] at hl
    rcases hl with rfl | rfl
    · exact RF.rep_of (mem e he).2.2.1
    · rcases List.mem_append.mp he with he | he
      · exact RF.rep_of (mem e he).2.2.1
      · obtain ⟨h1, h2, h3⟩ := RF.nm_mem he
        rw [h3]
        simp only [List.mem_cons, List.not_mem_nil, or_false] at h1
        rw [h1]
        exact RF.rep_of (by decide +kernel)
  · intro k l hl e he p
    match k with
    | 0 =>
      cases hl
      obtain ⟨m1, m2, m3, m4, m5⟩ := mem e he
      rw [m4, m5]
      exact hear_ex ht rfl (by decide) (by decide) (plain_bad1 m1 m2 p)
    | 1 =>
      cases hl
      rcases List.mem_append.mp he with he | he
      · obtain ⟨m1, m2, m3, m4, m5⟩ := mem e he
        rw [m4, m5]
        exact hear_ex ht rfl (by decide) (by decide) (plain_bad2 a m1 m2 p)
      · obtain ⟨h1, h2, h3⟩ := RF.nm_mem he
        rw [h2, h3]
        simp only [List.mem_cons, List.not_mem_nil, or_false] at h1
        rw [h1]
        exact hear_ex ht rfl (by decide) (by decide) (plain_nought a p)
    | k + 2 => cases hl
  · intro k l l' hl hl' e he e' he' p
    match k with
    | 0 =>
      cases hl
      obtain ⟨m1, m2, m3, m4, m5⟩ := mem e he
      rw [m4, m5]
      exact hear_ex ht rfl (by decide) (by decide) (plain_bad1 m1 m2 p)
    | k + 1 => cases hl'
  · intro p
    exact hear_told ht rfl (by decide) (by decide) (t_plain a b hb hs p)
/-! ### a turn -/
theorem lawf (t b : Int) (hb : 0 < b) (hb2 : b < 1000) (ht : t.natAbs < 1000) : szR 20 (Rat.divInt t b) ∧ ∀ p, MW.m__law_f [.int t, .int b] p = .ok (frD (Rat.divInt t b)) p := by
  have e : (1000 : Nat) ≤ 2 ^ 20 := by decide
  exact ⟨szR_divInt (by omega) (Nat.lt_of_lt_of_le ht e) (Nat.lt_of_lt_of_le (show b.natAbs < 1000 by omega) e), fun p => MW.lawf_ok (by omega) (Nat.lt_of_lt_of_le (show b.natAbs < 1000 by omega) (Nat.le_trans e (Nat.pow_le_pow_right (by decide) (by decide)))) p⟩
theorem divInt_pos {t b : Int} (ht : 0 < t) (hb : 0 < b) : Rat.divInt t b ≠ 0 := by
  intro z
  have h := divInt_cross t b (by omega)
  rw [z] at h
  have h0 : (0 : Rat).num = 0 := rfl
  have h1 : (0 : Rat).den = 1 := rfl
  rw [h0, h1] at h
  omega
theorem turn_ok {p : Pool} (hp : PI p) (i : Int) : ∃ ε p', l__law_right_2 [some .pool, some (.lst (off.map RF.W3.d)), some (.int i), none, none, none, none, none, none] p = .ok (.nx ε) p' ∧ fg [2, 3, 4, 5, 6, 7, 8] ε = [some .pool, some (.lst (off.map RF.W3.d)), none, none, none, none, none, none, none] ∧ PI p' := by
  obtain ⟨k1, p1, e1, a1, b1, h1⟩ := draw_ok hp 41 (by decide) (by decide)
  obtain ⟨k2, p2, e2, a2, b2, h2⟩ := draw_ok h1 12 (by decide) (by decide)
  obtain ⟨k3, p3, e3, a3, b3, h3⟩ := draw_ok h2 20 (by decide) (by decide)
  obtain ⟨k4, p4, e4, a4, b4, h4⟩ := draw_ok h3 12 (by decide) (by decide)
  obtain ⟨s1, f1⟩ := lawf (k1 - 20) (1 + k2) (by omega) (by omega) (by omega)
  obtain ⟨s2, f2⟩ := lawf (1 + k3) (1 + k4) (by omega) (by omega) (by omega)
  have n2 := divInt_pos (t := 1 + k3) (b := 1 + k4) (by omega) (by omega)
  generalize Rat.divInt (k1 - 20) (1 + k2) = q at *
  generalize Rat.divInt (1 + k3) (1 + k4) = r at *
  have st1 : (sPar false 3 4 (dCons (dCall 2 MW.m__law_f (dCons (d2 subD (dCall 2 m__law_draw (dCons (dVar 0) (dCons (dC (.int 41)) dNil))) (dC (.int 20))) (dCons (d2 addD (dC (.int 1)) (dCall 2 m__law_draw (dCons (dVar 0) (dCons (dC (.int 12)) dNil)))) dNil))) (dCons (dCall 2 MW.m__law_f (dCons (d2 addD (dC (.int 1)) (dCall 2 m__law_draw (dCons (dVar 0) (dCons (dC (.int 20)) dNil)))) (dCons (d2 addD (dC (.int 1)) (dCall 2 m__law_draw (dCons (dVar 0) (dCons (dC (.int 12)) dNil)))) dNil))) dNil))) [some .pool, some (.lst (off.map RF.W3.d)), some (.int i), none, none, none, none, none, none] p = .ok (.nx [some .pool, some (.lst (off.map RF.W3.d)), some (.int i), some (frD q), some (frD r), none, none, none, none]) p4 := by
    simp [e1, e2, e3, e4, f1, f2]
  obtain ⟨p5, st2, h5⟩ : ∃ p5, (sFor (iSeq (dA lstO (dCons (dC (.fn "plus")) (dCons (dC (.fn "less")) (dCons (dC (.fn "times")) (dCons (dC (.fn "over")) (dCons (dC (.fn "is_below")) dNil))))))) (pN false 5) [5] l__law_right_1) [some .pool, some (.lst (off.map RF.W3.d)), some (.int i), some (frD q), some (frD r), none, none, none, none] p4 = .ok (.nx [some .pool, some (.lst (off.map RF.W3.d)), some (.int i), some (frD q), some (frD r), none, none, none, none]) p5 ∧ PI p5 := by
    obtain ⟨p5, l, h5⟩ := loopF_true (t := pN false 5) (b := l__law_right_1) (ks := [5]) PI [some .pool, some (.lst (off.map RF.W3.d)), some (.int i), some (frD q), some (frD r), none, none, none, none] [.fn "plus", .fn "less", .fn "times", .fn "over", .fn "is_below"] (fun d hd p hp => by
      have key : ∀ {x : Str} {m : List D → M D}, tab_law x = some (2, m) → Two m → (∀ p, ∃ v, m [frD q, frD r] p = .ok v p) → d = .fn x → ∃ ε1 ε2 p', pN false 5 d [some .pool, some (.lst (off.map RF.W3.d)), some (.int i), some (frD q), some (frD r), none, none, none, none] = some ε1 ∧ l__law_right_1 ε1 p = .ok (.nx ε2) p' ∧ fg [5] ε2 = [some .pool, some (.lst (off.map RF.W3.d)), some (.int i), some (frD q), some (frD r), none, none, none, none] ∧ PI p' := fun {x m} ht h t e => by
        subst e
        obtain ⟨p', er, hp'⟩ := ref_two ht h t hp
        generalize off.map RF.W3.d = O at *
        exact ⟨[some .pool, some (.lst O), some (.int i), some (frD q), some (frD r), some (.fn x), none, none, none], [some .pool, some (.lst O), some (.int i), some (frD q), some (frD r), some (.fn x), none, none, none], p', rfl, by simp [l__law_right_1, tupO_of, lstO_of, er], rfl, hp'⟩
      simp only [List.mem_cons, List.not_mem_nil, or_false] at hd
      rcases hd with e | e | e | e | e
      · exact key rfl two_plus (t_plus s1 s2) e
      · exact key rfl two_less (t_less s1 s2) e
      · exact key rfl two_times (t_times s1 s2) e
      · exact key rfl two_over (t_over s1 s2 n2) e
      · exact key rfl two_below (t_below s1 s2) e) p4 h4
    exact ⟨p5, by simp [lstO_of, l], h5⟩
  have g1 := fun p => hear_ex (x := "over") (m := m_over) rfl rfl (by decide) (by decide) (over_nought q p)
  have g2 : ∀ p, m__law_heard [.fn "over", .tup [.tup [.int 2, .int 4], .tup [.int 0, .int 1]]] p = .ok (.lst [.str "fraction", .tup [.int 2, .int 4]]) p := fun p => hear_ex (x := "over") (m := m_over) rfl rfl (by decide) (by decide) (two_over.bad1 _ _ p rfl (by decide))
  have g3 : ∀ p, m__law_heard [.fn "over", .tup [.tup [.int 0, .int 1], frD r]] p = .ok (.lst [.str "told", .non]) p := fun p => hear_told (x := "over") (m := m_over) rfl rfl (by decide) (by decide) (by
    have := t_over (a := 0) (b := r) ⟨by decide, by decide⟩ s2 n2 p
    rw [frD_zero] at this
    exact this)
  have st3 : (sIf (dOr (dB (d2 (eqD true) (dCall 2 m__law_heard (dCons (dC (.fn "over")) (dCons (dA tupO (dCons (dVar 3) (dCons (dA tupO (dCons (dC (.int 0)) (dCons (dC (.int 1)) dNil))) dNil))) dNil))) (dA lstO (dCons (dC (.str "fraction")) (dCons (dA tupO (dCons (dC (.int 0)) (dCons (dC (.int 1)) dNil))) dNil))))) (dOr (dB (d2 (eqD true) (dCall 2 m__law_heard (dCons (dC (.fn "over")) (dCons (dA tupO (dCons (dA tupO (dCons (dC (.int 2)) (dCons (dC (.int 4)) dNil))) (dCons (dA tupO (dCons (dC (.int 0)) (dCons (dC (.int 1)) dNil))) dNil))) dNil))) (dA lstO (dCons (dC (.str "fraction")) (dCons (dA tupO (dCons (dC (.int 2)) (dCons (dC (.int 4)) dNil))) dNil))))) (dB (d2 (eqD true) (dCall 2 m__law_heard (dCons (dC (.fn "over")) (dCons (dA tupO (dCons (dA tupO (dCons (dC (.int 0)) (dCons (dC (.int 1)) dNil))) (dCons (dVar 4) dNil))) dNil))) (dA lstO (dCons (dC (.str "told")) (dCons (dC .non) dNil))))))) (sRet (dC (.bl false))) sNil) [some .pool, some (.lst (off.map RF.W3.d)), some (.int i), some (frD q), some (frD r), none, none, none, none] p5 = .ok (.nx [some .pool, some (.lst (off.map RF.W3.d)), some (.int i), some (frD q), some (frD r), none, none, none, none]) p5 := by
    generalize off.map RF.W3.d = O at *
    simp [g1, g2, g3, tupO_of, lstO_of]
  have st4 : (sSet false 6 (dCall 2 m__law_named (dCons (dA lstO (dCons (dC .non) (dCons (dA tupO dNil) (dCons (dC (.str "1")) (dCons (dC (.bl true)) (dCons (dC (.bl false)) (dCons (dA tupO (dCons (dC (.int 1)) (dCons (dC (.int 1)) dNil))) (dCons (dA lstO (dCons (dC (.int 1)) dNil)) (dCons (dC (.dct [] [])) dNil))))))))) (dCons (dC (.str "fraction")) dNil)))) [some .pool, some (.lst (off.map RF.W3.d)), some (.int i), some (frD q), some (frD r), none, none, none, none] p5 = .ok (.nx [some .pool, some (.lst (off.map RF.W3.d)), some (.int i), some (frD q), some (frD r), none, some (.lst (wrong.map RF.W3.d)), none, none]) p5 := by
    have nw := named wr "fraction" (by decide) p5
    generalize off.map RF.W3.d = O at *
    generalize (RF.nm wr "fraction").map RF.W3.d = O2 at *
    have e : wr = [.non, .tup [], .str "1", .bl true, .bl false, .tup [.int 1, .int 1], .lst [.int 1], .dct [] []] := rfl
    rw [e] at nw
    simp [tupO_of, lstO_of, nw]
  obtain ⟨k5, p6, e5, a5, b5, h6⟩ := draw_ok h5 41 (by decide) (by decide)
  obtain ⟨k6, p7, e6, a6, b6, h7⟩ := draw_ok h6 20 (by decide) (by decide)
  obtain ⟨sg, p8, e7, hs, h8⟩ := pick_ok h7 [.int 1, .int (-1)] (by simp) (by decide)
  obtain ⟨s, rfl, hs'⟩ : ∃ s : Int, sg = .int s ∧ (s = 1 ∨ s = -1) := by
    simp only [List.mem_cons, List.not_mem_nil, or_false] at hs
    rcases hs with rfl | rfl
    · exact ⟨1, rfl, .inl rfl⟩
    · exact ⟨-1, rfl, .inr rfl⟩
  have st5 : (sPar false 7 8 (dCons (d2 subD (dCall 2 m__law_draw (dCons (dVar 0) (dCons (dC (.int 41)) dNil))) (dC (.int 20))) (dCons (d2 mulD (d2 addD (dC (.int 1)) (dCall 2 m__law_draw (dCons (dVar 0) (dCons (dC (.int 20)) dNil)))) (dCall 2 m__law_pick (dCons (dVar 0) (dCons (dA lstO (dCons (dC (.int 1)) (dCons (d1 negD (dC (.int 1))) dNil))) dNil)))) dNil))) [some .pool, some (.lst (off.map RF.W3.d)), some (.int i), some (frD q), some (frD r), none, some (.lst (wrong.map RF.W3.d)), none, none] p5 = .ok (.nx [some .pool, some (.lst (off.map RF.W3.d)), some (.int i), some (frD q), some (frD r), none, some (.lst (wrong.map RF.W3.d)), some (.int (k5 - 20)), some (.int ((1 + k6) * s))]) p8 := by
    generalize off.map RF.W3.d = O at *
    generalize wrong.map RF.W3.d = O2 at *
    have m := mul_l (1 + k6) s (by have : (2 : Nat) ^ 64 = 18446744073709551616 := by decide
                                   omega)
    simp [-mul_l, -mul_r, e5, e6, e7, lstO_of, m]
  obtain ⟨p9, e9, h9⟩ := ref_plain (k5 - 20) ((1 + k6) * s) (by rcases hs' with rfl | rfl <;> omega) (by rcases hs' with rfl | rfl <;> omega) h8
  refine ⟨[some .pool, some (.lst (off.map RF.W3.d)), some (.int i), some (frD q), some (frD r), none, some (.lst (wrong.map RF.W3.d)), some (.int (k5 - 20)), some (.int ((1 + k6) * s))], p9, ?_, ?_, h9⟩
  · unfold l__law_right_2
    rw [sSeq_ap, st1, nxt_nx, sSeq_ap, st2, nxt_nx, sSeq_ap, st3, nxt_nx, sSeq_ap, st4, nxt_nx, sSeq_ap, st5, nxt_nx]
    have nz := named [.int 0] "fraction" (by decide) p8
    have ap : addD (.lst (wrong.map RF.W3.d)) (.lst ((RF.nm [.int 0] "fraction").map RF.W3.d)) = some (.lst ((wrong ++ RF.nm [.int 0] "fraction").map RF.W3.d)) := by
      rw [addD_l, if_pos (by decide), List.map_append]
    generalize (wrong ++ RF.nm [.int 0] "fraction").map RF.W3.d = O3 at *
    generalize (RF.nm [.int 0] "fraction").map RF.W3.d = O4 at *
    generalize wrong.map RF.W3.d = O2 at *
    generalize off.map RF.W3.d = O at *
    simp [-addD_l, nz, ap, tupO_of, lstO_of, e9]
  · rfl
theorem right_ok {p : Pool} (hp : PI p) : ∃ p', m__law_right [.pool] p = .ok (.bl true) p' := by
  obtain ⟨p1, l, h1⟩ := loopF_true (t := pN false 2) (b := l__law_right_2) (ks := [2, 3, 4, 5, 6, 7, 8]) PI [some .pool, some (.lst (off.map RF.W3.d)), none, none, none, none, none, none, none] (rngL 0 4) (fun d hd p hp => by
    obtain ⟨i, rfl, _, _⟩ := rngL_mem hd
    obtain ⟨ε, p', e, e2, hp'⟩ := turn_ok hp i
    exact ⟨_, ε, p', rfl, e, e2, hp'⟩) p hp
  have g1 := fun p => hear_ex (x := "plain") (m := m_plain) rfl rfl (by decide) (by decide) (plain_bad1 (a := .bl true) (b := .int 0) rfl rfl p)
  have g2 := fun p => hear_ex (x := "plain") (m := m_plain) rfl rfl (by decide) (by decide) (plain_nought 0 p)
  have nf := fun p => nofr p
  have nw := fun p => named RF.noFr "fraction" (by decide) p
  refine ⟨p1, ?_⟩
  have O' : ∃ O, O = off.map RF.W3.d := ⟨_, rfl⟩
  obtain ⟨O, hO⟩ := O'
  rw [← hO] at l
  simp only [← hO] at nw
  generalize RF.noFr = NF at *
  clear hO
  simp [m__law_right, b__law_right, runB_ap, nf, nw, l, g1, g2, tupO_of, lstO_of]
theorem law_ok : ∀ ns : List Int, ns.length ≤ 63 → m_law [.rol (ns.map D.int)] none = .ok (.bl true) none := by
  intro ns hl
  have key : ∀ n : Nat, loopF (pN false 1) l_law_1 [1] (rngL 0 n) [some (.rol (ns.map D.int)), none] none = .ok (.nx [some (.rol (ns.map D.int)), none]) none := by
    intro n
    obtain ⟨p', e, rfl⟩ := loopF_true (t := pN false 1) (b := l_law_1) (ks := [1]) (fun q => q = none) [some (.rol (ns.map D.int)), none] (rngL 0 n) (fun d hd q hq => by
      subst hq
      obtain ⟨i, rfl, h0, h1⟩ := rngL_mem hd
      obtain ⟨a, b, c, e1⟩ := pool_ok ns i h0 none
      obtain ⟨p', e2⟩ := right_ok (p := some ([a, b, c].map D.int)) ⟨a, b, c, rfl⟩
      have e3 := dCallPool_ap 1 2 m__law_right m__law_pool (dCons (dVar 0) (dCons (dVar 1) dNil)) [some (.rol (ns.map D.int)), some (.int i)] none none none p' [.rol (ns.map D.int), .int i] [a, b, c] (.bl true) (by simp) rfl rfl e1 e2 rfl
      exact ⟨_, [some (.rol (ns.map D.int)), some (.int i)], none, rfl, by simp [l_law_1, e3], by simp, rfl⟩) none rfl
    exact e
  have n1 : ∃ m : Int, (maxD [.int 2, .int (if (3 : Int) < ns.length then 3 else ns.length)]) = some (.int m) ∧ m < 100 ∧ -100 < m := by
    refine ⟨_, rfl, ?_, ?_⟩ <;> (split <;> split <;> omega)
  obtain ⟨m, em, m1, m2⟩ := n1
  have em' : (minD [.int ns.length, .int 3]) = some (.int (if (3 : Int) < ns.length then 3 else ns.length)) := rfl
  have rr : rng1 [.int m] = some (rngL 0 m.toNat) := rng1_i m ⟨by omega, by omega⟩
  simp only [m_law, b_law, runB_ap]
  simp [-minD_i, -maxD_i, em', em, rr, key]
end K01

end
section
open PySem PySem.W PyProof.Rows
set_option maxRecDepth 100000 in
set_option maxHeartbeats 8000000 in
theorem PySem.Challenge.cw_warmtubs_k01_parts_refused_holds : PySem.Challenge.rw_warmtubs_k01_parts_refused.Holds := by
  w_on; o_law; k_head; (case hw => w_witness2)
  k_fill
  refine DL.walk_D (n := 63) (k := 11) (x := "script") (m := K01.m_law) rfl (by decide) rfl ⟨rfl, by decide, by decide⟩ (fun w h Y => PySem.W.kIn_of Y) ?F K01.law_ok
  case F =>
    intro w mg fa h KX G hmg
    refine' K01.all_mk KX G hmg ?z0 ?z1 ?z2 ?z3 ?z4 ?z5 ?z6 ?z7 ?z8 ?z9 ?z10 ?z11 ?z12 ?zG0 ?yG0 ?wa ?wb ?wd ?wt ?zn ?zt ?ea0 ?eK0 ?eB0 ?eT0 ?eD0 ?eg0 ?ek0 ?eh0 ?em0 ?eW0 ?eV0 ?ex0 ?es0 ?en0 ?ei0 ?et0 ?el0 ?ec0 ?a0 ?l0 ?c0 ?k0 ?a1 ?l1 ?c1 ?k1 ?a2 ?l2 ?c2 ?k2 ?a3 ?l3 ?c3 ?k3 ?a4 ?l4 ?c4 ?k4 ?a5 ?l5 ?c5 ?k5 ?a6 ?l6 ?c6 ?k6 ?a7 ?l7 ?c7 ?k7 ?a8 ?l8 ?c8 ?k8 ?a9 ?l9 ?c9 ?k9 ?a10 ?l10 ?c10 ?k10 ?a11 ?l11 ?c11 ?k11 ?a12 ?l12 ?c12 ?k12 ?a13 ?l13 ?c13 ?k13 ?a14 ?l14 ?c14 ?k14 ?a15 ?l15 ?c15 ?k15 ?a16 ?l16 ?c16 ?k16 ?a17 ?l17 ?c17 ?k17 ?a18 ?l18 ?c18 ?k18 ?a19 ?l19 ?c19 ?k19 ?a20 ?l20 ?c20 ?k20 ?a21 ?l21 ?c21 ?k21 ?a22 ?l22 ?c22 ?k22 ?a23 ?l23 ?c23 ?k23 ?a24 ?l24 ?c24 ?k24
    (case z0 => k_is); (case z1 => k_is); (case z2 => k_is); (case z3 => k_is); (case z4 => k_is); (case z5 => k_is); (case z6 => k_is); (case z7 => k_is); (case z8 => k_is); (case z9 => k_is); (case z10 => k_is); (case z11 => k_is); (case z12 => k_is); (case zG0 => k_is); (case yG0 => k_is); (case wa => k_is); (case wb => k_is); (case wd => k_is); (case wt => k_is); (case zn => k_is); (case zt => k_is); (case ea0 => k_is); (case eK0 => k_is); (case eB0 => k_is); (case eT0 => k_is); (case eD0 => k_is); (case eg0 => k_is); (case ek0 => k_is); (case eh0 => k_is); (case em0 => k_is); (case eW0 => k_is); (case eV0 => kit_is); (case ex0 => k_is); (case es0 => k_is); (case en0 => k_is); (case ei0 => k_is); (case et0 => k_is); (case el0 => k_is); (case ec0 => k_is); (case a0 => k_is); (case l0 => k_is); (case c0 => k_is); (case k0 => k_is); (case a1 => k_is); (case l1 => k_is); (case c1 => k_is); (case k1 => k_is); (case a2 => k_is); (case l2 => k_is); (case c2 => k_is); (case k2 => k_is); (case a3 => k_is); (case l3 => k_is); (case c3 => k_is); (case k3 => k_is); (case a4 => k_is); (case l4 => k_is); (case c4 => k_is); (case k4 => k_is); (case a5 => k_is); (case l5 => k_is); (case c5 => k_is); (case k5 => k_is); (case a6 => k_is); (case l6 => k_is); (case c6 => k_is); (case k6 => k_is); (case a7 => k_is); (case l7 => k_is); (case c7 => k_is); (case k7 => k_is); (case a8 => k_is); (case l8 => k_is); (case c8 => k_is); (case k8 => k_is); (case a9 => k_is); (case l9 => k_is); (case c9 => k_is); (case k9 => k_is); (case a10 => k_is); (case l10 => k_is); (case c10 => k_is); (case k10 => k_is); (case a11 => k_is); (case l11 => k_is); (case c11 => k_is); (case k11 => k_is); (case a12 => k_is); (case l12 => k_is); (case c12 => k_is); (case k12 => k_is); (case a13 => k_is); (case l13 => k_is); (case c13 => k_is); (case k13 => k_is); (case a14 => k_is); (case l14 => k_is); (case c14 => k_is); (case k14 => k_is); (case a15 => k_is); (case l15 => k_is); (case c15 => k_is); (case k15 => k_is); (case a16 => k_is); (case l16 => k_is); (case c16 => k_is); (case k16 => k_is); (case a17 => k_is); (case l17 => k_is); (case c17 => k_is); (case k17 => k_is); (case a18 => k_is); (case l18 => k_is); (case c18 => k_is); (case k18 => k_is); (case a19 => k_is); (case l19 => k_is); (case c19 => k_is); (case k19 => k_is); (case a20 => k_is); (case l20 => k_is); (case c20 => k_is); (case k20 => k_is); (case a21 => k_is); (case l21 => k_is); (case c21 => k_is); (case k21 => k_is); (case a22 => k_is); (case l22 => k_is); (case c22 => k_is); (case k22 => k_is); (case a23 => k_is); (case l23 => k_is); (case c23 => k_is); (case k23 => k_is); (case a24 => k_is); (case l24 => k_is); (case c24 => k_is); (case k24 => k_is)
#print axioms PySem.Challenge.cw_warmtubs_k01_parts_refused_holds

end
